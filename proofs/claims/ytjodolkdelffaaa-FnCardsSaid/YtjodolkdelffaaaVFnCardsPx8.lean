/- A part of the proof of laws.FnCards. No condition beyond what its theorems say. -/
import Derived.Test.YtjodolkdelffaaaVFnCardsPx0
namespace Go.Proofs.Ytjodolkdelffaaa.PFnCards
open Go.RowKit Go.Proofs.YtjodolkdelffaaaW.PrintWords Go.Proofs.YtjodolkdelffaaaW.PrintLast Go.Proofs.YtjodolkdelffaaaW.PrintMore
set_option linter.unusedVariables false
set_option linter.unusedSimpArgs false

def Z37.l0:Nat→List Int→Int→Int→Int→Option (Int)
 | 0,_,_,_,_=>none
 | k+1,x0,x1,x7,x8=>if x8<x7 then (if 0≤x8 then (if x8<(x0.length:Int) then (if x1=(rd x0 x8) then (some x8) else (Z37.l0 k x0 x1 x7 (wrap64 (x8+1)))) else (none)) else (none)) else (some (-1))
def Z37.f (k:Nat) (l0:List Int) (a1:Int):Option (Int):=Z37.l0 k l0 a1 (l0.length:Int) 0
theorem Z37.mono_l:∀ k,(∀ y0 y1 y2 y3,LeO (Z37.l0 k y0 y1 y2 y3) (Z37.l0 (k+1) y0 y1 y2 y3))
 | 0=>fun _ _ _ _ r h=>by simp [Z37.l0] at h
 | k+1=>by
  have ih0:=Z37.mono_l k
  ·intro y0 y1 y2 y3
   unfold Z37.l0
   repeat' (with_reducible first|apply ih0|exact lR _|refine lI ?_ ?_)
theorem Z37.mono:∀ a0 a1 k,LeO (Z37.f k a0 a1) (Z37.f (k+1) a0 a1):=by
 intro a0 a1 k;have ih0:=Z37.mono_l k;unfold Z37.f
 repeat' (with_reducible apply ih0)
set_option maxHeartbeats 60000000 in
set_option maxRecDepth 100000 in
theorem Z37.calls (k:Nat) (A0:Option Addr) (c0:Nat) (l0:List Int) (a1 r:Int) (w:World) (hr0:Kd.C (Kd.int .i64) w A0 l0.length l0) (hc0:l0.length≤c0) (h:Z37.f k l0 a1=some r) :
  Calls Try.prog 68 #[.slice A0 l0.length c0,a1] w fun e w'=>e=.returned (.int .i64 r)∧Drawn0 w w':=by
 have aI:=aM hr0;clear hr0 hc0;have H:(Z37.l0 k l0 a1 (l0.length:Int) 0)=some r:=h;clear h;have H':=aM H;clear H;go_enter Try.func68,Try.ntmps68
 go_wp2
 go_loopg [8] k (fun kq v8 w'=>∃ (aA:Int),v8=.int .i64 aA∧Aside0 (Z37.l0 kq l0 a1 (l0.length:Int) aA=some r)∧Aside0 (kq≤k)∧Drawn0 w w')
 case atStart=>exact ⟨(0),xE,H',⟨Nat.le_refl _⟩,by repeat (exact Drawn0.refl _)⟩
 case round =>
  clear H'
  obtain ⟨aA,rfl,HA,aJ,⟨m1,rfl⟩⟩:=hrel;cases gk with
  | zero=>exact absurd HA.out (by simp [Z37.l0])
  | succ k1 =>
   have H:=HA.out;clear HA;simp only [Z37.l0] at H
   by_cases c3:aA<(l0.length:Int)
   case neg =>
    rw [if_neg c3] at H
    have aK:=decide_eq_false c3;clear c3;obtain rfl:=Option.some.inj H;go_wp2
    go_ret
    exact ⟨by rfl,by repeat (first|exact Drawn0.refl _|apply Drawn0.step)⟩
   rw [if_pos c3] at H
   have aK:=decide_eq_true c3;clear c3;obtain ⟨aT,H⟩:=gI H;obtain ⟨aV,H⟩:=gI H
   by_cases c6:a1=(rd l0 aA)
   case pos =>
    rw [if_pos c6] at H
    have aN:(a1 == (rd l0 aA))=true:=beq_iff_eq.mpr c6;clear c6;obtain rfl:=Option.some.inj H;have aC:0≤(aA:Int):=dT;have aD:aA<(l0.length:Int):=dT;obtain ⟨aH,aE,aG⟩:=Kd.at_int aI.out aA aC aD;cases aE
    replace aC:=eq_true aC;replace aD:=eq_true aD;go_wp2
    go_ret
    exact ⟨by rfl,by repeat (first|exact Drawn0.refl _|apply Drawn0.step)⟩
   rw [if_neg c6] at H
   have aN:(a1 == (rd l0 aA))=false:=beq_eq_false_iff_ne.mpr c6;have H':=aM H;clear H;have aC:0≤(aA:Int):=dT;have aD:aA<(l0.length:Int):=dT;obtain ⟨aH,aE,aG⟩:=Kd.at_int aI.out aA aC aD;cases aE
   replace aC:=eq_true aC;replace aD:=eq_true aD;go_wp2
   go_roundg k1
   case measure=>have:=aJ.out;omega
   case rel=>exact ⟨(wS aA),xE,H',⟨by have:=aJ.out;omega⟩,by repeat (first|exact Drawn0.refl _|apply Drawn0.step)⟩

def Z39.f (k:Nat) (l0:List Int) (a1:Int):Option (Bool):=(Z37.f k l0 a1).bind fun aA=>(some (decide (aA ≥ 0)))
theorem Z39.mono:∀ a0 a1 k,LeO (Z39.f k a0 a1) (Z39.f (k+1) a0 a1):=by
 intro a0 a1 k;unfold Z39.f
 repeat' (with_reducible first|apply Z37.mono|exact lR _|refine lB ?_ fun _=>?_)
set_option maxHeartbeats 60000000 in
set_option maxRecDepth 100000 in
theorem Z39.calls (k:Nat) (A0:Option Addr) (c0:Nat) (l0:List Int) (a1:Int) (r:Bool) (w:World) (hr0:Kd.C (Kd.int .i64) w A0 l0.length l0) (hc0:l0.length≤c0) (h:Z39.f k l0 a1=some r) :
  Calls Try.prog 43 #[.slice A0 l0.length c0,a1] w fun e w'=>e=.returned (.bool r)∧Drawn0 w w':=by
 have aD:=aM hr0;have aE:=aM hc0;clear hr0 hc0;have H:((Z37.f k l0 a1).bind fun aA=>(some (decide (aA ≥ 0))))=some r:=h
 clear h;obtain ⟨aA,aC,H⟩:=hB H;have A3:=aM aC;clear aC;obtain rfl:=Option.some.inj H;go_enter Try.func43,Try.ntmps43
 go_wp2_with (((with_reducible refine gC (f:=68) rfl ?_);refine gL (some 7) Try.func68 #[.slice A0 l0.length c0,a1] ?_;(with_reducible refine (Z37.calls k _ _ l0 a1 aA _ ?side1 ?side2 A3.out).mono ?_);(case side1=>exact cM aD.out);(case side2=>exact aE.out);rintro e w' ⟨rfl,⟨nd,rfl⟩⟩;refine ⟨_,rfl,?_⟩))
 go_ret
 exact ⟨by rfl,by repeat (first|exact Drawn0.refl _|apply Drawn0.step)⟩

def Z23.f (a0 a1 a2:Int):Option (Bool):=if a0 ≥ a1 then (some (decide (a0≤a2))) else (some false)
set_option maxHeartbeats 60000000 in
set_option maxRecDepth 100000 in
theorem Z23.calls (a0 a1 a2:Int) (r:Bool) (w:World) (h:Z23.f a0 a1 a2=some r) :
  Calls Try.prog 40 #[a0,a1,a2] w fun e w'=>e=.returned (.bool r)∧Drawn0 w w':=by
 have H:(if a0 ≥ a1 then (some (decide (a0≤a2))) else (some false))=some r:=h;clear h
 by_cases c4:a0 ≥ a1
 case pos =>
  rw [if_pos c4] at H
  have aA:=decide_eq_true c4;clear c4;obtain rfl:=Option.some.inj H;go_enter Try.func40,Try.ntmps40
  go_wp2
  go_ret
  exact ⟨by rfl,by repeat (exact Drawn0.refl _)⟩
 rw [if_neg c4] at H
 have aA:=decide_eq_false c4;clear c4;obtain rfl:=Option.some.inj H;go_enter Try.func40,Try.ntmps40
 go_wp2
 go_ret
 exact ⟨by rfl,by repeat (exact Drawn0.refl _)⟩

def Z46.f (a0:Int):Option (Bool):=(Z23.f a0 1 4).bind fun aA=>(some aA)
set_option maxHeartbeats 60000000 in
set_option maxRecDepth 100000 in
theorem Z46.calls (a0:Int) (r:Bool) (w:World) (h:Z46.f a0=some r) :
  Calls Try.prog 65 #[a0] w fun e w'=>e=.returned (.bool r)∧Drawn0 w w':=by
 have H:((Z23.f a0 1 4).bind fun aA=>(some aA))=some r:=h
 clear h;obtain ⟨aA,aC,H⟩:=hB H;have A2:=aM aC;clear aC;obtain rfl:=Option.some.inj H;go_enter Try.func65,Try.ntmps65
 go_wp2_with (((with_reducible refine gC (f:=40) rfl ?_);refine gL (some 4) Try.func40 #[a0,.int .i64 1,.int .i64 4] ?_;(with_reducible refine (Z23.calls a0 1 4 aA _ A2.out).mono ?_);rintro e w' ⟨rfl,⟨nd,rfl⟩⟩;refine ⟨_,rfl,?_⟩))
 go_ret
 exact ⟨by rfl,by repeat (first|exact Drawn0.refl _|apply Drawn0.step)⟩

def Z18.l0:Nat→List Int→Int→Int→Int→List Int→Option (Bool)
 | 0,_,_,_,_,_=>none
 | k+1,x6,x7,x8,aC,aA=>if x8<x7 then (if 0≤x8 then (if x8<(x6.length:Int) then ((Z46.f (rd x6 x8)).bind fun aD=>(if aD=true then (if x8 > 0 then (if 0≤(wrap64 (x8 - 1)) then (if (wrap64 (x8 - 1))<(aA.length:Int) then (if (rd x6 x8)≤(rd aA (wrap64 (x8 - 1))) then (some false) else (Z18.l0 k x6 x7 (wrap64 (x8+1)) aC aA)) else (none)) else (none)) else (Z18.l0 k x6 x7 (wrap64 (x8+1)) aC aA)) else (some false))) else (none)) else (none)) else ((Z46.f aC).bind fun aE=>(if aE=true then ((Z39.f k aA aC).bind fun aG=>(some aG)) else (some false)))
def Z18.f (k:Nat) (aC:Int) (aA:List Int):Option (Bool):=Z18.l0 k aA (aA.length:Int) 0 aC aA
theorem Z18.mono_l:∀ k,(∀ y0 y1 y2 y3 y4,LeO (Z18.l0 k y0 y1 y2 y3 y4) (Z18.l0 (k+1) y0 y1 y2 y3 y4))
 | 0=>fun _ _ _ _ _ r h=>by simp [Z18.l0] at h
 | k+1=>by
  have ih0:=Z18.mono_l k
  ·intro y0 y1 y2 y3 y4
   unfold Z18.l0
   repeat' (with_reducible first|apply ih0|apply Z39.mono|exact lR _|refine lI ?_ ?_|refine lB ?_ fun _=>?_)
theorem Z18.mono:∀ a0 a1 k,LeO (Z18.f k a0 a1) (Z18.f (k+1) a0 a1):=by
 intro a0 a1 k;have ih0:=Z18.mono_l k;unfold Z18.f
 repeat' (with_reducible apply ih0)
set_option maxHeartbeats 60000000 in
set_option maxRecDepth 100000 in
theorem Z18.calls (k:Nat) (aI:Int) (aX:Option Addr) (bA:Nat) (aA:List Int) (r:Bool) (w:World) (hr0_1:Kd.C (Kd.int .i64) w aX aA.length aA) (hc0_1:aA.length≤bA) (h:Z18.f k aI aA=some r) :
  Calls Try.prog 39 #[.agg #[aI,.slice aX aA.length bA]] w fun e w'=>e=.returned (.bool r)∧Below w.heap.size w w':=by
 have aK:=aM hr0_1;have bL:=aM hc0_1;clear hr0_1 hc0_1;have HB:=aM (Below.refl w.heap.size w);have H:(Z18.l0 k aA (aA.length:Int) 0 aI aA)=some r:=h;clear h;have H':=aM H;clear H;go_enter Try.func39,Try.ntmps39
 go_wp2_with (((with_reducible refine gD (N:=1) rfl ?_);refine bE (N:=1) (cs:=#[aI,.slice aX aA.length bA]) (t:=42) ?_;intro bM hg w2 hbox hb;have aJ:=aM (hbox);replace HB:=rS HB hb;clear hb hbox hg;have cL:=cA2 aJ.out))
 go_loopg [8] k (fun kq v8 w'=>∃ (aC:Int),v8=.int .i64 aC∧Aside0 (Z18.l0 kq aA (aA.length:Int) aC aI aA=some r)∧Aside0 (kq≤k)∧Aside0 (w'.heap[bM]?=some (.cells #[aI,(.slice aX aA.length bA)] 42 (0,0)))∧Aside0 (Below w.heap.size w w'))
 case atStart=>exact ⟨(0),xE,H',⟨Nat.le_refl _⟩,⟨bk aJ.out⟩,⟨bl HB.out⟩⟩
 case round =>
  clear H'
  repeat first|clear p2|clear c3
  obtain ⟨aC,rfl,HA,bH,aJ,HB⟩:=hrel;cases gk with
  | zero=>exact absurd HA.out (by simp [Z18.l0])
  | succ k1 =>
   have H:=HA.out;clear HA;simp only [Z18.l0] at H
   by_cases c4:aC<(aA.length:Int)
   case neg =>
    rw [if_neg c4] at H
    have bQ:=decide_eq_false c4;clear c4;obtain ⟨bT,bJ,H⟩:=hB H;have bO:=aM bJ;clear bJ
    by_cases bI:bT=true
    case neg =>
     replace bI:=Bool.eq_false_iff.mpr bI;subst bI;replace H:=hF H;obtain rfl:=Option.some.inj H;have cA:=cA2 aJ.out;go_wp2_with (((with_reducible refine gC (f:=65) rfl ?_);refine gL (some 33) Try.func65 #[aI] ?_;(with_reducible refine (Z46.calls aI false _ bO.out).mono ?_);rintro e w' ⟨rfl,⟨nd,rfl⟩⟩;refine ⟨_,rfl,?_⟩))
     go_ret
     exact ⟨xW,bl HB.out⟩
    subst bI;replace H:=hP H rfl;obtain ⟨bU,bK,H⟩:=hB H;have bX:=aM bK;clear bK;obtain rfl:=Option.some.inj H;have cC:=cA2 aJ.out;go_wp2_with (first|((with_reducible refine gC (f:=65) rfl ?_);refine gL (some 33) Try.func65 #[aI] ?_;(with_reducible refine (Z46.calls aI true _ bO.out).mono ?_);rintro e w' ⟨rfl,⟨nd,rfl⟩⟩;refine ⟨_,rfl,?_⟩)|(go_at_call 43;(with_reducible refine (Z39.calls k1 _ _ aA aI bU _ ?side1 ?side2 bX.out).mono ?_);(case side1=>exact cM (cB aK.out (bl HB.out)));(case side2=>exact bL.out);rintro e w' ⟨rfl,⟨nd,rfl⟩⟩))
    go_ret
    exact ⟨xW,bl HB.out⟩
   rw [if_pos c4] at H
   have bQ:=decide_eq_true c4;clear c4;obtain ⟨cN,H⟩:=gI H;obtain ⟨cO,H⟩:=gI H;obtain ⟨bV,bP,H⟩:=hB H;have A7:=aM bP;clear bP
   by_cases c8:bV=true
   case neg =>
    replace c8:=Bool.eq_false_iff.mpr c8;subst c8;replace H:=hF H;obtain rfl:=Option.some.inj H;have aE:0≤(aC:Int):=dT;have aG:aC<(aA.length:Int):=dT;obtain ⟨aV,aN,aD⟩:=Kd.at_int aK.out aC aE aG;cases aN
    replace aD:=xB HB aD;replace aE:=eq_true aE;replace aG:=eq_true aG;go_wp2_with (((with_reducible refine gC (f:=65) rfl ?_);refine gL (some 14) Try.func65 #[.int .i64 (rd aA aC)] ?_;(with_reducible refine (Z46.calls (rd aA aC) false _ A7.out).mono ?_);rintro e w' ⟨rfl,⟨nd,rfl⟩⟩;refine ⟨_,rfl,?_⟩))
    go_ret
    exact ⟨xW,bl HB.out⟩
   subst c8;replace H:=hP H rfl
   by_cases c9:aC > 0
   case neg =>
    rw [if_neg c9] at H
    have bW:=decide_eq_false c9;clear c9;have H':=aM H;clear H;have aE:0≤(aC:Int):=dT;have aG:aC<(aA.length:Int):=dT;obtain ⟨aV,aN,aD⟩:=Kd.at_int aK.out aC aE aG;cases aN
    replace aD:=xB HB aD;replace aE:=eq_true aE;replace aG:=eq_true aG;go_wp2_with (((with_reducible refine gC (f:=65) rfl ?_);refine gL (some 14) Try.func65 #[.int .i64 (rd aA aC)] ?_;(with_reducible refine (Z46.calls (rd aA aC) true _ A7.out).mono ?_);rintro e w' ⟨rfl,⟨nd,rfl⟩⟩;refine ⟨_,rfl,?_⟩))
    go_roundg k1
    case measure=>have:=bH.out;omega
    case rel=>exact ⟨(wS aC),xE,H',⟨by have:=bH.out;omega⟩,⟨bk aJ.out⟩,⟨bl HB.out⟩⟩
   rw [if_pos c9] at H
   have bW:=decide_eq_true c9;clear c9;obtain ⟨ji10,hji10⟩:∃ j_:Int,(wrap64 (aC - 1))=j_:=⟨_,rfl⟩;replace H:(if 0≤(ji10) then (if (ji10)<(aA.length:Int) then (if (rd aA aC)≤(rd aA (ji10)) then (some false) else (Z18.l0 k1 aA (aA.length:Int) (wS aC) aI aA)) else (none)) else (none))=some r:=by (rw [hji10] at H;exact H)
   have hji10w:(IntKind.i64.wrap (aC - 1))=ji10:=(i64_w _).trans hji10;obtain ⟨cD,H⟩:=gI H;obtain ⟨cE,H⟩:=gI H
   by_cases aW:(rd aA aC)≤(rd aA (ji10))
   case pos =>
    rw [if_pos aW] at H
    have bN:=decide_eq_true aW;clear aW;obtain rfl:=Option.some.inj H;have aE:0≤(aC:Int):=dT;have aG:aC<(aA.length:Int):=dT;obtain ⟨aV,aN,aD⟩:=Kd.at_int aK.out aC aE aG;cases aN
    replace aD:=xB HB aD;replace aE:=eq_true aE;replace aG:=eq_true aG;go_wp2_with (((with_reducible refine gC (f:=65) rfl ?_);refine gL (some 14) Try.func65 #[.int .i64 (rd aA aC)] ?_;(with_reducible refine (Z46.calls (rd aA aC) true _ A7.out).mono ?_);rintro e w' ⟨rfl,⟨nd,rfl⟩⟩;refine ⟨_,rfl,?_⟩;have cG:=cA2 aJ.out;have aQ:0≤((ji10):Int):=dT;have aT:(ji10)<(aA.length:Int):=dT;obtain ⟨bD,bG,aH⟩:=Kd.at_int aK.out (ji10) aQ aT;obtain rfl:aV=bD:=(by injection bG);replace aH:=(HB.out.cell (World.block_lt_of_cell? w _ aH)).trans aH;replace aQ:=eq_true aQ;replace aT:=eq_true aT))
    go_ret
    exact ⟨by rfl,bl HB.out⟩
   rw [if_neg aW] at H
   have bN:=decide_eq_false aW;clear aW;have H':=aM H;clear H;have aE:0≤(aC:Int):=dT;have aG:aC<(aA.length:Int):=dT;obtain ⟨aV,aN,aD⟩:=Kd.at_int aK.out aC aE aG;cases aN
   replace aD:=xB HB aD;replace aE:=eq_true aE;replace aG:=eq_true aG;go_wp2_with (((with_reducible refine gC (f:=65) rfl ?_);refine gL (some 14) Try.func65 #[.int .i64 (rd aA aC)] ?_;(with_reducible refine (Z46.calls (rd aA aC) true _ A7.out).mono ?_);rintro e w' ⟨rfl,⟨nd,rfl⟩⟩;refine ⟨_,rfl,?_⟩;have cH:=cA2 aJ.out;have aQ:0≤((ji10):Int):=dT;have aT:(ji10)<(aA.length:Int):=dT;obtain ⟨bD,bG,aH⟩:=Kd.at_int aK.out (ji10) aQ aT;obtain rfl:aV=bD:=(by injection bG);replace aH:=(HB.out.cell (World.block_lt_of_cell? w _ aH)).trans aH;replace aQ:=eq_true aQ;replace aT:=eq_true aT))
   go_roundg k1
   case measure=>have:=bH.out;omega
   case rel=>exact ⟨(wS aC),xE,H',⟨by have:=bH.out;omega⟩,⟨bk aJ.out⟩,⟨bl HB.out⟩⟩

def Z48.f (a0:Int):Option (Bool):=(Z23.f a0 1 9).bind fun aA=>(some aA)
set_option maxHeartbeats 60000000 in
set_option maxRecDepth 100000 in
theorem Z48.calls (a0:Int) (r:Bool) (w:World) (h:Z48.f a0=some r) :
  Calls Try.prog 49 #[a0] w fun e w'=>e=.returned (.bool r)∧Drawn0 w w':=by
 have H:((Z23.f a0 1 9).bind fun aA=>(some aA))=some r:=h
 clear h;obtain ⟨aA,aC,H⟩:=hB H;have A2:=aM aC;clear aC;obtain rfl:=Option.some.inj H;go_enter Try.func49,Try.ntmps49
 go_wp2_with (((with_reducible refine gC (f:=40) rfl ?_);refine gL (some 4) Try.func40 #[a0,.int .i64 1,.int .i64 9] ?_;(with_reducible refine (Z23.calls a0 1 9 aA _ A2.out).mono ?_);rintro e w' ⟨rfl,⟨nd,rfl⟩⟩;refine ⟨_,rfl,?_⟩))
 go_ret
 exact ⟨by rfl,by repeat (first|exact Drawn0.refl _|apply Drawn0.step)⟩

def Z52.f (aD aA aG aH aE aC aI aJ:Int):Option (Bool):=if aA<aC then (some true) else (if aA=aC then (some (decide (aD<aE))) else (some false))
set_option maxHeartbeats 60000000 in
set_option maxRecDepth 100000 in
theorem Z52.calls (aI aC aK aN aJ aD aQ aT:Int) (r:Bool) (w:World) (h:Z52.f aI aC aK aN aJ aD aQ aT=some r) :
  Calls Try.prog 58 #[.agg #[aI,aC,aK,aN],.agg #[aJ,aD,aQ,aT]] w fun e w'=>e=.returned (.bool r)∧Below w.heap.size w w':=by
 have HB:=aM (Below.refl w.heap.size w);have H:(if aC<aD then (some true) else (if aC=aD then (some (decide (aI<aJ))) else (some false)))=some r:=h;clear h
 by_cases c3:aC<aD
 case pos =>
  rw [if_pos c3] at H
  have bH:=decide_eq_true c3;clear c3;obtain rfl:=Option.some.inj H;go_enter Try.func58,Try.ntmps58
  go_wp2_with (first|((with_reducible refine gD (N:=2) rfl ?_);refine bE (N:=2) (cs:=#[aI,aC,aK,aN]) (t:=72) ?_;intro aV hg w4 hbox hb;have aA:=aM (hbox);replace HB:=rS HB hb;clear hb hbox hg)|((with_reducible refine gD (N:=3) rfl ?_);refine bE (N:=3) (cs:=#[aJ,aD,aQ,aT]) (t:=72) ?_;intro bA hg w5 hbox hb;have aH:=aM (hbox);have aE:=nM hg aA;have aG:=nH hg aA;replace aA:=rB aA hb;replace HB:=rS HB hb;clear hb hbox hg;have bX:=cA4 aA.out;have bY:=cA4 aH.out))
  go_ret
  exact ⟨xW,bl HB.out⟩
 rw [if_neg c3] at H
 have bH:=decide_eq_false c3;clear c3
 by_cases c9:aC=aD
 case neg =>
  rw [if_neg c9] at H
  have bI:(aC == aD)=false:=beq_eq_false_iff_ne.mpr c9;obtain rfl:=Option.some.inj H;go_enter Try.func58,Try.ntmps58
  go_wp2_with (first|((with_reducible refine gD (N:=2) rfl ?_);refine bE (N:=2) (cs:=#[aI,aC,aK,aN]) (t:=72) ?_;intro aV hg bZ hbox hb;have aA:=aM (hbox);replace HB:=rS HB hb;clear hb hbox hg)|((with_reducible refine gD (N:=3) rfl ?_);refine bE (N:=3) (cs:=#[aJ,aD,aQ,aT]) (t:=72) ?_;intro bA hg cA hbox hb;have aH:=aM (hbox);have aE:=nM hg aA;have aG:=nH hg aA;replace aA:=rB aA hb;replace HB:=rS HB hb;clear hb hbox hg;have bM:=cA4 aA.out;have bN:=cA4 aH.out))
  go_ret
  exact ⟨xW,bl HB.out⟩
 rw [if_pos c9] at H
 have bI:(aC == aD)=true:=beq_iff_eq.mpr c9;clear c9;obtain rfl:=Option.some.inj H;go_enter Try.func58,Try.ntmps58
 go_wp2_with (first|((with_reducible refine gD (N:=2) rfl ?_);refine bE (N:=2) (cs:=#[aI,aC,aK,aN]) (t:=72) ?_;intro aV hg cC hbox hb;have aA:=aM (hbox);replace HB:=rS HB hb;clear hb hbox hg)|((with_reducible refine gD (N:=3) rfl ?_);refine bE (N:=3) (cs:=#[aJ,aD,aQ,aT]) (t:=72) ?_;intro bA hg cD hbox hb;have aH:=aM (hbox);have aE:=nM hg aA;have aG:=nH hg aA;replace aA:=rB aA hb;replace HB:=rS HB hb;clear hb hbox hg;have bQ:=cA4 aA.out;have bT:=cA4 aH.out))
 go_ret
 exact ⟨xW,bl HB.out⟩

def Z60.f (a0:Int):Option (Bool):=(Z23.f a0 0 3).bind fun aA=>(some aA)
set_option maxHeartbeats 60000000 in
set_option maxRecDepth 100000 in
theorem Z60.calls (a0:Int) (r:Bool) (w:World) (h:Z60.f a0=some r) :
  Calls Try.prog 66 #[a0] w fun e w'=>e=.returned (.bool r)∧Drawn0 w w':=by
 have H:((Z23.f a0 0 3).bind fun aA=>(some aA))=some r:=h
 clear h;obtain ⟨aA,aC,H⟩:=hB H;have A2:=aM aC;clear aC;obtain rfl:=Option.some.inj H;go_enter Try.func66,Try.ntmps66
 go_wp2_with (((with_reducible refine gC (f:=40) rfl ?_);refine gL (some 4) Try.func40 #[a0,.int .i64 0,.int .i64 3] ?_;(with_reducible refine (Z23.calls a0 0 3 aA _ A2.out).mono ?_);rintro e w' ⟨rfl,⟨nd,rfl⟩⟩;refine ⟨_,rfl,?_⟩))
 go_ret
 exact ⟨by rfl,by repeat (first|exact Drawn0.refl _|apply Drawn0.step)⟩

end Go.Proofs.Ytjodolkdelffaaa.PFnCards
