/- A part of the proof of laws.FnExactPass. No condition beyond what its theorems say. -/
import Derived.Test.YtfljolhhgheheaaVFnExactPassPx12
namespace Go.Proofs.Ytfljolhhgheheaa.PFnExactPass
open Go.RowKit Go.Proofs.YtfljolhhgheheaaW.PrintWords Go.Proofs.YtfljolhhgheheaaW.PrintLast Go.Proofs.YtfljolhhgheheaaW.PrintMore
set_option linter.unusedVariables false
set_option linter.unusedSimpArgs false

def Y76.f (aA:List Bool) (aD:List (S60)) (aE:List (S86)) (a1:Int):Option (Bool):=(Y21.f a1 0 (wrap64 ((aA.length:Int) - 1))).bind fun aC=>(if aC=true then (if 0≤a1 then (if a1<(aA.length:Int) then (some (rdOf false aA a1)) else (none)) else (none)) else (some false))
set_option maxHeartbeats 60000000 in
set_option maxRecDepth 100000 in
theorem Y76.calls (aG:Option Addr) (aH:Nat) (aA:List Bool) (aI:Option Addr) (aJ:Nat) (aC:List (S60)) (aK:Option Addr) (aN:Nat) (aD:List (S86)) (a1:Int) (r:Bool) (w:World) (hr0_0:Kd.C Kd.bool w aG aA.length aA) (hc0_0:aA.length≤aH) (hr0_1:Kd.C k60 w aI aC.length aC) (hc0_1:aC.length≤aJ) (hr0_2:Kd.C k86 w aK aD.length aD) (hc0_2:aD.length≤aN) (h:Y76.f aA aC aD a1=some r) :
  Calls Try.prog 34 #[.agg #[.slice aG aA.length aH,.slice aI aC.length aJ,.slice aK aD.length aN],a1] w fun e w'=>e=.returned (.bool r)∧Below w.heap.size w w':=by
 have bQ:=Try.underlying35;have aX:=aM hr0_0;have bJ:=aM hc0_0;clear hr0_0 hc0_0;have bK:=aM hr0_1;have bL:=aM hc0_1;clear hr0_1 hc0_1;have bM:=aM hr0_2;have bN:=aM hc0_2;clear hr0_2 hc0_2;have HB:=aM (Below.refl w.heap.size w);have H:((Y21.f a1 0 (wrap64 ((aA.length:Int) - 1))).bind fun aT=>(if aT=true then (if 0≤a1 then (if a1<(aA.length:Int) then (some (rdOf false aA a1)) else (none)) else (none)) else (some false)))=some r:=h
 clear h;obtain ⟨aT,bH,H⟩:=hB H;have A3:=aM bH;clear bH
 by_cases c4:aT=true
 case neg =>
  replace c4:=Bool.eq_false_iff.mpr c4;subst c4;replace H:=hF H;obtain rfl:=Option.some.inj H;go_enter Try.func34,Try.ntmps34
  go_wp2_with (first|((with_reducible refine gD (N:=2) rfl ?_);refine bE (N:=2) (cs:=#[.slice aG aA.length aH,.slice aI aC.length aJ,.slice aK aD.length aN]) (t:=35) ?_;intro bA hg w9 hbox hb;have aQ:=aM (hbox);have bD:=gF hg HB;have bG:=gF hg HB;replace HB:=rS HB hb;clear hb hbox hg;have bO:=cA3 aQ.out)|((with_reducible refine gC (f:=65) rfl ?_);refine gL (some 10) Try.func65 #[a1,.int .i64 0,.int .i64 (wrap64 ((aA.length:Int) - 1))] ?_;(with_reducible refine (Y21.calls a1 0 (wrap64 ((aA.length:Int) - 1)) false _ A3.out).mono ?_);rintro e w' ⟨rfl,⟨nd,rfl⟩⟩;refine ⟨_,rfl,?_⟩))
  go_ret
  exact ⟨xW,bl HB.out⟩
 subst c4;replace H:=hP H rfl;obtain ⟨bT,H⟩:=gI H;obtain ⟨bU,H⟩:=gI H;obtain rfl:=Option.some.inj H;go_enter Try.func34,Try.ntmps34
 go_wp2_with (first|((with_reducible refine gD (N:=2) rfl ?_);refine bE (N:=2) (cs:=#[.slice aG aA.length aH,.slice aI aC.length aJ,.slice aK aD.length aN]) (t:=35) ?_;intro bA hg w7 hbox hb;have aQ:=aM (hbox);have bD:=gF hg HB;have bG:=gF hg HB;replace HB:=rS HB hb;clear hb hbox hg;have bV:=cA3 aQ.out)|((with_reducible refine gC (f:=65) rfl ?_);refine gL (some 10) Try.func65 #[a1,.int .i64 0,.int .i64 (wrap64 ((aA.length:Int) - 1))] ?_;(with_reducible refine (Y21.calls a1 0 (wrap64 ((aA.length:Int) - 1)) true _ A3.out).mono ?_);rintro e w' ⟨rfl,⟨nd,rfl⟩⟩;refine ⟨_,rfl,?_⟩;have aV:0≤(a1:Int):=dT;have aW:a1<(aA.length:Int):=dT;obtain ⟨bP,bI,aE⟩:=Kd.at_bool aX.out a1 aV aW;cases bI;replace aE:=(HB.out.cell (World.block_lt_of_cell? w _ aE)).trans aE;replace aV:=eq_true aV;replace aW:=eq_true aW))
 go_ret
 exact ⟨xW,bl HB.out⟩

def Y43.l0:Nat→List Int→Int→Int→Int→Option (Int)
 | 0,_,_,_,_=>none
 | k+1,x0,x1,x7,x8=>if x8<x7 then (if 0≤x8 then (if x8<(x0.length:Int) then (if x1=(rd x0 x8) then (some x8) else (Y43.l0 k x0 x1 x7 (wrap64 (x8+1)))) else (none)) else (none)) else (some (-1))
def Y43.f (k:Nat) (l0:List Int) (a1:Int):Option (Int):=Y43.l0 k l0 a1 (l0.length:Int) 0
theorem Y43.mono_l:∀ k,(∀ y0 y1 y2 y3,LeO (Y43.l0 k y0 y1 y2 y3) (Y43.l0 (k+1) y0 y1 y2 y3))
 | 0=>fun _ _ _ _ r h=>by simp [Y43.l0] at h
 | k+1=>by
  have ih0:=Y43.mono_l k
  ·intro y0 y1 y2 y3
   unfold Y43.l0
   repeat' first|(with_reducible first|apply ih0|exact lR _|exact lN _|refine lI ?_ ?_|refine lB ?_ fun _=>?_)|exact lN _|refine lI ?_ ?_|refine lB ?_ fun _=>?_
theorem Y43.mono:∀ a0 a1 k,LeO (Y43.f k a0 a1) (Y43.f (k+1) a0 a1):=by
 intro a0 a1 k;have ih0:=Y43.mono_l k;unfold Y43.f
 repeat' first|(with_reducible first|apply ih0|exact lR _|exact lN _|refine lI ?_ ?_|refine lB ?_ fun _=>?_)|exact lN _|refine lI ?_ ?_|refine lB ?_ fun _=>?_
set_option maxHeartbeats 60000000 in
set_option maxRecDepth 100000 in
theorem Y43.calls (k:Nat) (A0:Option Addr) (c0:Nat) (l0:List Int) (a1 r:Int) (w:World) (hr0:Kd.C (Kd.int .i64) w A0 l0.length l0) (hc0:l0.length≤c0) (h:Y43.f k l0 a1=some r) :
  Calls Try.prog 84 #[.slice A0 l0.length c0,a1] w fun e w'=>e=.returned (.int .i64 r)∧Drawn0 w w':=by
 have aI:=aM hr0;have aW:=aM hc0;clear hr0 hc0;have H:(Y43.l0 k l0 a1 (l0.length:Int) 0)=some r:=h;clear h;have H':=aM H;clear H;go_enter Try.func84,Try.ntmps84
 go_wp2
 go_loopg [8] k (fun kq v8 w'=>∃ (aA:Int),v8=.int .i64 aA∧Aside0 (Y43.l0 kq l0 a1 (l0.length:Int) aA=some r)∧Aside0 (kq≤k)∧Drawn0 w w')
 case atStart=>exact ⟨(0),xE,H',⟨Nat.le_refl _⟩,by repeat (first|exact Drawn0.refl _|apply Drawn0.step)⟩
 case round =>
  clear H'
  try clear p2
  obtain ⟨aA,rfl,HA,aJ,⟨m1,rfl⟩⟩:=hrel;cases gk with
  | zero=>exact absurd HA.out (by simp [Y43.l0])
  | succ k1 =>
   have H:=HA.out;clear HA;simp only [Y43.l0] at H
   by_cases c3:aA<(l0.length:Int)
   case neg =>
    rw [if_neg c3] at H
    have aK:=decide_eq_false c3;clear c3;obtain rfl:=Option.some.inj H;go_wp2
    go_ret
    exact ⟨by first|rfl|(simp;done)|(simp [*];done),by repeat (first|exact Drawn0.refl _|apply Drawn0.step)⟩
   rw [if_pos c3] at H
   have aK:=decide_eq_true c3;clear c3;obtain ⟨aT,H⟩:=gI H;obtain ⟨aV,H⟩:=gI H
   by_cases c6:a1=(rd l0 aA)
   case pos =>
    rw [if_pos c6] at H
    have aN:(a1 == (rd l0 aA))=true:=beq_iff_eq.mpr c6;have aQ:(a1 != (rd l0 aA))=false:=bne_eq_false_iff_eq.mpr c6;clear c6;obtain rfl:=Option.some.inj H;have aC:0≤(aA:Int):=dT;have aD:aA<(l0.length:Int):=dT;obtain ⟨aH,aE,aG⟩:=Kd.at_int aI.out aA aC aD;cases aE
    replace aC:=eq_true aC;replace aD:=eq_true aD;go_wp2
    go_ret
    exact ⟨by first|rfl|(simp;done)|(simp [*];done),by repeat (first|exact Drawn0.refl _|apply Drawn0.step)⟩
   rw [if_neg c6] at H
   have aN:(a1 == (rd l0 aA))=false:=beq_eq_false_iff_ne.mpr c6;have aQ:(a1 != (rd l0 aA))=true:=bne_iff_ne.mpr c6;have H':=aM H;clear H;have aC:0≤(aA:Int):=dT;have aD:aA<(l0.length:Int):=dT;obtain ⟨aH,aE,aG⟩:=Kd.at_int aI.out aA aC aD;cases aE
   replace aC:=eq_true aC;replace aD:=eq_true aD;go_wp2
   go_roundg k1
   case measure=>have:=aJ.out;omega
   case rel=>exact ⟨(wS aA),xE,H',⟨by have:=aJ.out;omega⟩,by repeat (first|exact Drawn0.refl _|apply Drawn0.step)⟩

def Y48.f (k:Nat) (l0:List Int) (a1:Int):Option (Bool):=(Y43.f k l0 a1).bind fun aA=>(some (decide (aA ≥ 0)))
theorem Y48.mono:∀ a0 a1 k,LeO (Y48.f k a0 a1) (Y48.f (k+1) a0 a1):=by
 intro a0 a1 k;unfold Y48.f
 repeat' first|(with_reducible first|apply Y43.mono|exact lR _|exact lN _|refine lI ?_ ?_|refine lB ?_ fun _=>?_)|exact lN _|refine lI ?_ ?_|refine lB ?_ fun _=>?_
set_option maxHeartbeats 60000000 in
set_option maxRecDepth 100000 in
theorem Y48.calls (k:Nat) (A0:Option Addr) (c0:Nat) (l0:List Int) (a1:Int) (r:Bool) (w:World) (hr0:Kd.C (Kd.int .i64) w A0 l0.length l0) (hc0:l0.length≤c0) (h:Y48.f k l0 a1=some r) :
  Calls Try.prog 70 #[.slice A0 l0.length c0,a1] w fun e w'=>e=.returned (.bool r)∧Drawn0 w w':=by
 have aD:=aM hr0;have aE:=aM hc0;clear hr0 hc0;have H:((Y43.f k l0 a1).bind fun aA=>(some (decide (aA ≥ 0))))=some r:=h
 clear h;obtain ⟨aA,aC,H⟩:=hB H;have A3:=aM aC;clear aC;obtain rfl:=Option.some.inj H;go_enter Try.func70,Try.ntmps70
 go_wp2_with (first|((with_reducible refine gC (f:=84) rfl ?_);refine gL (some 7) Try.func84 #[.slice A0 l0.length c0,a1] ?_;(with_reducible refine (Y43.calls k _ _ l0 a1 aA _ ?side1 ?side2 A3.out).mono ?_);(case side1=>exact cM aD.out);(case side2=>exact aE.out);rintro e w' ⟨rfl,⟨nd,rfl⟩⟩;refine ⟨_,rfl,?_⟩))
 go_ret
 exact ⟨by first|rfl|(simp;done)|(simp [*];done),by repeat (first|exact Drawn0.refl _|apply Drawn0.step)⟩

def Y51.f (a0:Int):Option (Bool):=(Y21.f a0 1 4).bind fun aA=>(some aA)
set_option maxHeartbeats 60000000 in
set_option maxRecDepth 100000 in
theorem Y51.calls (a0:Int) (r:Bool) (w:World) (h:Y51.f a0=some r) :
  Calls Try.prog 80 #[a0] w fun e w'=>e=.returned (.bool r)∧Drawn0 w w':=by
 have H:((Y21.f a0 1 4).bind fun aA=>(some aA))=some r:=h
 clear h;obtain ⟨aA,aC,H⟩:=hB H;have A2:=aM aC;clear aC;obtain rfl:=Option.some.inj H;go_enter Try.func80,Try.ntmps80
 go_wp2_with (first|((with_reducible refine gC (f:=65) rfl ?_);refine gL (some 4) Try.func65 #[a0,.int .i64 1,.int .i64 4] ?_;(with_reducible refine (Y21.calls a0 1 4 aA _ A2.out).mono ?_);rintro e w' ⟨rfl,⟨nd,rfl⟩⟩;refine ⟨_,rfl,?_⟩))
 go_ret
 exact ⟨by first|rfl|(simp;done)|(simp [*];done),by repeat (first|exact Drawn0.refl _|apply Drawn0.step)⟩

def Y12.l0:Nat→List Int→Int→Int→Int→List Int→Option (Bool)
 | 0,_,_,_,_,_=>none
 | k+1,x6,x7,x8,aC,aA=>if x8<x7 then (if 0≤x8 then (if x8<(x6.length:Int) then ((Y51.f (rd x6 x8)).bind fun aD=>(if aD=true then (if x8 > 0 then (if 0≤(wrap64 (x8 - 1)) then (if (wrap64 (x8 - 1))<(aA.length:Int) then (if (rd x6 x8)≤(rd aA (wrap64 (x8 - 1))) then (some false) else (Y12.l0 k x6 x7 (wrap64 (x8+1)) aC aA)) else (none)) else (none)) else (Y12.l0 k x6 x7 (wrap64 (x8+1)) aC aA)) else (some false))) else (none)) else (none)) else ((Y51.f aC).bind fun aE=>(if aE=true then ((Y48.f k aA aC).bind fun aG=>(some aG)) else (some false)))
def Y12.f (k:Nat) (aC:Int) (aA:List Int):Option (Bool):=Y12.l0 k aA (aA.length:Int) 0 aC aA
theorem Y12.mono_l:∀ k,(∀ y0 y1 y2 y3 y4,LeO (Y12.l0 k y0 y1 y2 y3 y4) (Y12.l0 (k+1) y0 y1 y2 y3 y4))
 | 0=>fun _ _ _ _ _ r h=>by simp [Y12.l0] at h
 | k+1=>by
  have ih0:=Y12.mono_l k
  ·intro y0 y1 y2 y3 y4
   unfold Y12.l0
   repeat' first|(with_reducible first|apply ih0|apply Y48.mono|exact lR _|exact lN _|refine lI ?_ ?_|refine lB ?_ fun _=>?_)|exact lN _|refine lI ?_ ?_|refine lB ?_ fun _=>?_
theorem Y12.mono:∀ a0 a1 k,LeO (Y12.f k a0 a1) (Y12.f (k+1) a0 a1):=by
 intro a0 a1 k;have ih0:=Y12.mono_l k;unfold Y12.f
 repeat' first|(with_reducible first|apply ih0|apply Y48.mono|exact lR _|exact lN _|refine lI ?_ ?_|refine lB ?_ fun _=>?_)|exact lN _|refine lI ?_ ?_|refine lB ?_ fun _=>?_
set_option maxHeartbeats 60000000 in
set_option maxRecDepth 100000 in
theorem Y12.calls (k:Nat) (aI:Int) (aX:Option Addr) (bA:Nat) (aA:List Int) (r:Bool) (w:World) (hr0_1:Kd.C (Kd.int .i64) w aX aA.length aA) (hc0_1:aA.length≤bA) (h:Y12.f k aI aA=some r) :
  Calls Try.prog 66 #[.agg #[aI,.slice aX aA.length bA]] w fun e w'=>e=.returned (.bool r)∧Below w.heap.size w w':=by
 have cK:=Try.underlying60;have aK:=aM hr0_1;have bL:=aM hc0_1;clear hr0_1 hc0_1;have HB:=aM (Below.refl w.heap.size w);have H:(Y12.l0 k aA (aA.length:Int) 0 aI aA)=some r:=h;clear h;have H':=aM H;clear H;go_enter Try.func66,Try.ntmps66
 go_wp2_with (first|((with_reducible refine gD (N:=1) rfl ?_);refine bE (N:=1) (cs:=#[aI,.slice aX aA.length bA]) (t:=60) ?_;intro bM hg w2 hbox hb;have aJ:=aM (hbox);have bY:=gF hg HB;have bZ:=gF hg HB;replace HB:=rS HB hb;clear hb hbox hg;have cL:=cA2 aJ.out))
 go_loopg [8] k (fun kq v8 w'=>∃ (aC:Int),v8=.int .i64 aC∧Aside0 (Y12.l0 kq aA (aA.length:Int) aC aI aA=some r)∧Aside0 (kq≤k)∧Aside0 (w'.heap[bM]?=some (.cells #[aI,(.slice aX aA.length bA)] 60 (0,0)))∧Aside0 (Below w.heap.size w w'))
 case atStart=>exact ⟨(0),xE,H',⟨Nat.le_refl _⟩,⟨bk aJ.out⟩,⟨bl HB.out⟩⟩
 case round =>
  clear H'
  try clear p2
  obtain ⟨aC,rfl,HA,bH,aJ,HB⟩:=hrel;cases gk with
  | zero=>exact absurd HA.out (by simp [Y12.l0])
  | succ k1 =>
   have H:=HA.out;clear HA;simp only [Y12.l0] at H
   by_cases c4:aC<(aA.length:Int)
   case neg =>
    rw [if_neg c4] at H
    have bQ:=decide_eq_false c4;clear c4;obtain ⟨bT,bJ,H⟩:=hB H;have bO:=aM bJ;clear bJ
    by_cases bI:bT=true
    case neg =>
     replace bI:=Bool.eq_false_iff.mpr bI;subst bI;replace H:=hF H;obtain rfl:=Option.some.inj H;have cA:=cA2 aJ.out;go_wp2_with (first|((with_reducible refine gC (f:=80) rfl ?_);refine gL (some 33) Try.func80 #[aI] ?_;(with_reducible refine (Y51.calls aI false _ bO.out).mono ?_);rintro e w' ⟨rfl,⟨nd,rfl⟩⟩;refine ⟨_,rfl,?_⟩))
     go_ret
     exact ⟨xW,bl HB.out⟩
    subst bI;replace H:=hP H rfl;obtain ⟨bU,bK,H⟩:=hB H;have bX:=aM bK;clear bK;obtain rfl:=Option.some.inj H;have cC:=cA2 aJ.out;go_wp2_with (first|((with_reducible refine gC (f:=80) rfl ?_);refine gL (some 33) Try.func80 #[aI] ?_;(with_reducible refine (Y51.calls aI true _ bO.out).mono ?_);rintro e w' ⟨rfl,⟨nd,rfl⟩⟩;refine ⟨_,rfl,?_⟩)|(go_at_call 70;(with_reducible refine (Y48.calls k1 _ _ aA aI bU _ ?side1 ?side2 bX.out).mono ?_);(case side1=>exact cM (cB aK.out (bl HB.out)));(case side2=>exact bL.out);rintro e w' ⟨rfl,⟨nd,rfl⟩⟩))
    go_ret
    exact ⟨xW,bl HB.out⟩
   rw [if_pos c4] at H
   have bQ:=decide_eq_true c4;clear c4;obtain ⟨cN,H⟩:=gI H;obtain ⟨cO,H⟩:=gI H;obtain ⟨bV,bP,H⟩:=hB H;have A7:=aM bP;clear bP
   by_cases c8:bV=true
   case neg =>
    replace c8:=Bool.eq_false_iff.mpr c8;subst c8;replace H:=hF H;obtain rfl:=Option.some.inj H;have aE:0≤(aC:Int):=dT;have aG:aC<(aA.length:Int):=dT;obtain ⟨aV,aN,aD⟩:=Kd.at_int aK.out aC aE aG;cases aN
    replace aD:=xB HB aD;replace aE:=eq_true aE;replace aG:=eq_true aG;go_wp2_with (first|((with_reducible refine gC (f:=80) rfl ?_);refine gL (some 14) Try.func80 #[.int .i64 (rd aA aC)] ?_;(with_reducible refine (Y51.calls (rd aA aC) false _ A7.out).mono ?_);rintro e w' ⟨rfl,⟨nd,rfl⟩⟩;refine ⟨_,rfl,?_⟩))
    go_ret
    exact ⟨xW,bl HB.out⟩
   subst c8;replace H:=hP H rfl
   by_cases c9:aC > 0
   case neg =>
    rw [if_neg c9] at H
    have bW:=decide_eq_false c9;clear c9;have H':=aM H;clear H;have aE:0≤(aC:Int):=dT;have aG:aC<(aA.length:Int):=dT;obtain ⟨aV,aN,aD⟩:=Kd.at_int aK.out aC aE aG;cases aN
    replace aD:=xB HB aD;replace aE:=eq_true aE;replace aG:=eq_true aG;go_wp2_with (first|((with_reducible refine gC (f:=80) rfl ?_);refine gL (some 14) Try.func80 #[.int .i64 (rd aA aC)] ?_;(with_reducible refine (Y51.calls (rd aA aC) true _ A7.out).mono ?_);rintro e w' ⟨rfl,⟨nd,rfl⟩⟩;refine ⟨_,rfl,?_⟩))
    go_roundg k1
    case measure=>have:=bH.out;omega
    case rel=>exact ⟨(wS aC),xE,H',⟨by have:=bH.out;omega⟩,⟨bk aJ.out⟩,⟨bl HB.out⟩⟩
   rw [if_pos c9] at H
   have bW:=decide_eq_true c9;clear c9;obtain ⟨ji10,hji10⟩:∃ j_:Int,(wrap64 (aC - 1))=j_:=⟨_,rfl⟩;replace H:(if 0≤(ji10) then (if (ji10)<(aA.length:Int) then (if (rd aA aC)≤(rd aA (ji10)) then (some false) else (Y12.l0 k1 aA (aA.length:Int) (wS aC) aI aA)) else (none)) else (none))=some r:=by first|(rw [hji10] at H;exact H)|(simp only [hji10] at H ⊢;exact H)
   (try rw [hji10] at A7)
   have hji10w:(IntKind.i64.wrap (aC - 1))=ji10:=(i64_w _).trans hji10;obtain ⟨cD,H⟩:=gI H;obtain ⟨cE,H⟩:=gI H
   by_cases aW:(rd aA aC)≤(rd aA (ji10))
   case pos =>
    rw [if_pos aW] at H
    have bN:=decide_eq_true aW;clear aW;obtain rfl:=Option.some.inj H;have aE:0≤(aC:Int):=dT;have aG:aC<(aA.length:Int):=dT;obtain ⟨aV,aN,aD⟩:=Kd.at_int aK.out aC aE aG;cases aN
    replace aD:=xB HB aD;replace aE:=eq_true aE;replace aG:=eq_true aG;go_wp2_with (first|((with_reducible refine gC (f:=80) rfl ?_);refine gL (some 14) Try.func80 #[.int .i64 (rd aA aC)] ?_;(with_reducible refine (Y51.calls (rd aA aC) true _ A7.out).mono ?_);rintro e w' ⟨rfl,⟨nd,rfl⟩⟩;refine ⟨_,rfl,?_⟩;have cG:=cA2 aJ.out;have aQ:0≤((ji10):Int):=dT;have aT:(ji10)<(aA.length:Int):=dT;obtain ⟨bD,bG,aH⟩:=Kd.at_int aK.out (ji10) aQ aT;obtain rfl:aV=bD:=(by injection bG);replace aH:=(HB.out.cell (World.block_lt_of_cell? w _ aH)).trans aH;replace aQ:=eq_true aQ;replace aT:=eq_true aT))
    go_ret
    exact ⟨by first|rfl|(simp [errW_none,errW_some] <;> rfl)|(simp only [← hji10];first|rfl|(simp [errW_none,errW_some] <;> rfl))|(simp [*,errW_none,errW_some] <;> rfl),bl HB.out⟩
   rw [if_neg aW] at H
   have bN:=decide_eq_false aW;clear aW;have H':=aM H;clear H;have aE:0≤(aC:Int):=dT;have aG:aC<(aA.length:Int):=dT;obtain ⟨aV,aN,aD⟩:=Kd.at_int aK.out aC aE aG;cases aN
   replace aD:=xB HB aD;replace aE:=eq_true aE;replace aG:=eq_true aG;go_wp2_with (first|((with_reducible refine gC (f:=80) rfl ?_);refine gL (some 14) Try.func80 #[.int .i64 (rd aA aC)] ?_;(with_reducible refine (Y51.calls (rd aA aC) true _ A7.out).mono ?_);rintro e w' ⟨rfl,⟨nd,rfl⟩⟩;refine ⟨_,rfl,?_⟩;have cH:=cA2 aJ.out;have aQ:0≤((ji10):Int):=dT;have aT:(ji10)<(aA.length:Int):=dT;obtain ⟨bD,bG,aH⟩:=Kd.at_int aK.out (ji10) aQ aT;obtain rfl:aV=bD:=(by injection bG);replace aH:=(HB.out.cell (World.block_lt_of_cell? w _ aH)).trans aH;replace aQ:=eq_true aQ;replace aT:=eq_true aT))
   go_roundg k1
   case measure=>have:=bH.out;omega
   case rel=>exact ⟨(wS aC),xE,H',⟨by have:=bH.out;omega⟩,⟨bk aJ.out⟩,⟨bl HB.out⟩⟩

def Y61.f (aD aA aG aH aE aC aI aJ:Int):Option (Bool):=if aA<aC then (some true) else (if aA=aC then (some (decide (aD<aE))) else (some false))
set_option maxHeartbeats 60000000 in
set_option maxRecDepth 100000 in
theorem Y61.calls (aI aC aK aN aJ aD aQ aT:Int) (r:Bool) (w:World) (h:Y61.f aI aC aK aN aJ aD aQ aT=some r) :
  Calls Try.prog 71 #[.agg #[aI,aC,aK,aN],.agg #[aJ,aD,aQ,aT]] w fun e w'=>e=.returned (.bool r)∧Below w.heap.size w w':=by
 have bU:=Try.underlying86;have HB:=aM (Below.refl w.heap.size w);have H:(if aC<aD then (some true) else (if aC=aD then (some (decide (aI<aJ))) else (some false)))=some r:=h;clear h
 by_cases c3:aC<aD
 case pos =>
  rw [if_pos c3] at H
  have bH:=decide_eq_true c3;clear c3;obtain rfl:=Option.some.inj H;go_enter Try.func71,Try.ntmps71
  go_wp2_with (first|((with_reducible refine gD (N:=2) rfl ?_);refine bE (N:=2) (cs:=#[aI,aC,aK,aN]) (t:=86) ?_;intro aV hg w4 hbox hb;have aA:=aM (hbox);have aW:=gF hg HB;have aX:=gF hg HB;replace HB:=rS HB hb;clear hb hbox hg)|((with_reducible refine gD (N:=3) rfl ?_);refine bE (N:=3) (cs:=#[aJ,aD,aQ,aT]) (t:=86) ?_;intro bA hg w5 hbox hb;have aH:=aM (hbox);have bD:=gF hg HB;have bG:=gF hg HB;have aE:=nM hg aA;have aG:=nH hg aA;replace aA:=rB aA hb;replace HB:=rS HB hb;clear hb hbox hg;have bV:=aE.out;have bW:=aG.out;have bX:=cA4 aA.out;have bY:=cA4 aH.out))
  go_ret
  exact ⟨xW,bl HB.out⟩
 rw [if_neg c3] at H
 have bH:=decide_eq_false c3;clear c3
 by_cases c9:aC=aD
 case neg =>
  rw [if_neg c9] at H
  have bI:(aC == aD)=false:=beq_eq_false_iff_ne.mpr c9;have bJ:(aC != aD)=true:=bne_iff_ne.mpr c9;obtain rfl:=Option.some.inj H;go_enter Try.func71,Try.ntmps71
  go_wp2_with (first|((with_reducible refine gD (N:=2) rfl ?_);refine bE (N:=2) (cs:=#[aI,aC,aK,aN]) (t:=86) ?_;intro aV hg bZ hbox hb;have aA:=aM (hbox);have aW:=gF hg HB;have aX:=gF hg HB;replace HB:=rS HB hb;clear hb hbox hg)|((with_reducible refine gD (N:=3) rfl ?_);refine bE (N:=3) (cs:=#[aJ,aD,aQ,aT]) (t:=86) ?_;intro bA hg cA hbox hb;have aH:=aM (hbox);have bD:=gF hg HB;have bG:=gF hg HB;have aE:=nM hg aA;have aG:=nH hg aA;replace aA:=rB aA hb;replace HB:=rS HB hb;clear hb hbox hg;have bK:=aE.out;have bL:=aG.out;have bM:=cA4 aA.out;have bN:=cA4 aH.out))
  go_ret
  exact ⟨xW,bl HB.out⟩
 rw [if_pos c9] at H
 have bI:(aC == aD)=true:=beq_iff_eq.mpr c9;have bJ:(aC != aD)=false:=bne_eq_false_iff_eq.mpr c9;clear c9;obtain rfl:=Option.some.inj H;go_enter Try.func71,Try.ntmps71
 go_wp2_with (first|((with_reducible refine gD (N:=2) rfl ?_);refine bE (N:=2) (cs:=#[aI,aC,aK,aN]) (t:=86) ?_;intro aV hg cC hbox hb;have aA:=aM (hbox);have aW:=gF hg HB;have aX:=gF hg HB;replace HB:=rS HB hb;clear hb hbox hg)|((with_reducible refine gD (N:=3) rfl ?_);refine bE (N:=3) (cs:=#[aJ,aD,aQ,aT]) (t:=86) ?_;intro bA hg cD hbox hb;have aH:=aM (hbox);have bD:=gF hg HB;have bG:=gF hg HB;have aE:=nM hg aA;have aG:=nH hg aA;replace aA:=rB aA hb;replace HB:=rS HB hb;clear hb hbox hg;have bO:=aE.out;have bP:=aG.out;have bQ:=cA4 aA.out;have bT:=cA4 aH.out))
 go_ret
 exact ⟨xW,bl HB.out⟩

def Y55.f (a0:Int):Option (Bool):=(Y21.f a0 1 9).bind fun aA=>(some aA)
set_option maxHeartbeats 60000000 in
set_option maxRecDepth 100000 in
theorem Y55.calls (a0:Int) (r:Bool) (w:World) (h:Y55.f a0=some r) :
  Calls Try.prog 81 #[a0] w fun e w'=>e=.returned (.bool r)∧Drawn0 w w':=by
 have H:((Y21.f a0 1 9).bind fun aA=>(some aA))=some r:=h
 clear h;obtain ⟨aA,aC,H⟩:=hB H;have A2:=aM aC;clear aC;obtain rfl:=Option.some.inj H;go_enter Try.func81,Try.ntmps81
 go_wp2_with (first|((with_reducible refine gC (f:=65) rfl ?_);refine gL (some 4) Try.func65 #[a0,.int .i64 1,.int .i64 9] ?_;(with_reducible refine (Y21.calls a0 1 9 aA _ A2.out).mono ?_);rintro e w' ⟨rfl,⟨nd,rfl⟩⟩;refine ⟨_,rfl,?_⟩))
 go_ret
 exact ⟨by first|rfl|(simp;done)|(simp [*];done),by repeat (first|exact Drawn0.refl _|apply Drawn0.step)⟩

def Y80.f (a0:Int):Option (Bool):=(Y21.f a0 0 3).bind fun aA=>(some aA)
set_option maxHeartbeats 60000000 in
set_option maxRecDepth 100000 in
theorem Y80.calls (a0:Int) (r:Bool) (w:World) (h:Y80.f a0=some r) :
  Calls Try.prog 82 #[a0] w fun e w'=>e=.returned (.bool r)∧Drawn0 w w':=by
 have H:((Y21.f a0 0 3).bind fun aA=>(some aA))=some r:=h
 clear h;obtain ⟨aA,aC,H⟩:=hB H;have A2:=aM aC;clear aC;obtain rfl:=Option.some.inj H;go_enter Try.func82,Try.ntmps82
 go_wp2_with (first|((with_reducible refine gC (f:=65) rfl ?_);refine gL (some 4) Try.func65 #[a0,.int .i64 0,.int .i64 3] ?_;(with_reducible refine (Y21.calls a0 0 3 aA _ A2.out).mono ?_);rintro e w' ⟨rfl,⟨nd,rfl⟩⟩;refine ⟨_,rfl,?_⟩))
 go_ret
 exact ⟨by first|rfl|(simp;done)|(simp [*];done),by repeat (first|exact Drawn0.refl _|apply Drawn0.step)⟩

end Go.Proofs.Ytfljolhhgheheaa.PFnExactPass
