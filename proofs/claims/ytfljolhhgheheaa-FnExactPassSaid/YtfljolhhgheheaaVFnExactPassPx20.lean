/- A part of the proof of laws.FnExactPass. No condition beyond what its theorems say. -/
import Derived.Test.YtfljolhhgheheaaVFnExactPassPx0
namespace Go.Proofs.Ytfljolhhgheheaa.PFnExactPass
open Go.RowKit Go.Proofs.YtfljolhhgheheaaW.PrintWords Go.Proofs.YtfljolhhgheheaaW.PrintLast Go.Proofs.YtfljolhhgheheaaW.PrintMore
set_option linter.unusedVariables false
set_option linter.unusedSimpArgs false

def Y30.l0:Nat→List Bool→List Bool→Int→Option (Bool)
 | 0,_,_,_=>none
 | k+1,x0,x1,x5=>if x5<(x0.length:Int) then (if 0≤x5 then (if x5<(x1.length:Int) then (if ((rdOf false x0 x5) != (rdOf false x1 x5))=true then (some false) else (Y30.l0 k x0 x1 (wrap64 (x5+1)))) else (none)) else (none)) else (some true)
def Y30.f (k:Nat) (l0:List Bool) (l1:List Bool):Option (Bool):=if (l0.length:Int)=(l1.length:Int) then (Y30.l0 k l0 l1 0) else (some false)
theorem Y30.mono_l:∀ k,(∀ y0 y1 y2,LeO (Y30.l0 k y0 y1 y2) (Y30.l0 (k+1) y0 y1 y2))
 | 0=>fun _ _ _ r h=>by simp [Y30.l0] at h
 | k+1=>by
  have ih0:=Y30.mono_l k
  ·intro y0 y1 y2
   unfold Y30.l0
   repeat' first|(with_reducible first|apply ih0|exact lR _|exact lN _|refine lI ?_ ?_|refine lB ?_ fun _=>?_)|exact lN _|refine lI ?_ ?_|refine lB ?_ fun _=>?_
theorem Y30.mono:∀ a0 a1 k,LeO (Y30.f k a0 a1) (Y30.f (k+1) a0 a1):=by
 intro a0 a1 k;have ih0:=Y30.mono_l k;unfold Y30.f
 repeat' first|(with_reducible first|apply ih0|exact lR _|exact lN _|refine lI ?_ ?_|refine lB ?_ fun _=>?_)|exact lN _|refine lI ?_ ?_|refine lB ?_ fun _=>?_
set_option maxHeartbeats 60000000 in
set_option maxRecDepth 100000 in
theorem Y30.calls (k:Nat) (A0:Option Addr) (c0:Nat) (l0:List Bool) (A1:Option Addr) (c1:Nat) (l1:List Bool) (r:Bool) (w:World) (hr0:Kd.C Kd.bool w A0 l0.length l0) (hc0:l0.length≤c0) (hr1:Kd.C Kd.bool w A1 l1.length l1) (hc1:l1.length≤c1) (h:Y30.f k l0 l1=some r) :
  Calls Try.prog 40 #[.slice A0 l0.length c0,.slice A1 l1.length c1] w fun e w'=>e=.returned (.bool r)∧Drawn0 w w':=by
 have aX:=aM hr0;have bN:=aM hc0;clear hr0 hc0;have bA:=aM hr1;have bO:=aM hc1;clear hr1 hc1;have H:(if (l0.length:Int)=(l1.length:Int) then (Y30.l0 k l0 l1 0) else (some false))=some r:=h;clear h
 by_cases c3:(l0.length:Int)=(l1.length:Int)
 case neg =>
  rw [if_neg c3] at H
  have aN:((l0.length:Int) == (l1.length:Int))=false:=beq_eq_false_iff_ne.mpr c3;have aQ:((l0.length:Int) != (l1.length:Int))=true:=bne_iff_ne.mpr c3;have aT:(l0.length == l1.length)=false:=by first|simpa using c3|(simp at c3 ⊢;omega)
  obtain rfl:=Option.some.inj H;go_enter Try.func40,Try.ntmps40
  go_wp2
  repeat (go_quiet (fail);try go_wp2)
  go_ret
  exact ⟨by first|rfl|(simp;done)|(simp [*];done),by repeat (first|exact Drawn0.refl _|apply Drawn0.step)⟩
 rw [if_pos c3] at H
 have aN:((l0.length:Int) == (l1.length:Int))=true:=beq_iff_eq.mpr c3;have aQ:((l0.length:Int) != (l1.length:Int))=false:=bne_eq_false_iff_eq.mpr c3;have aT:(l0.length == l1.length)=true:=by first|simpa using c3|(simp at c3 ⊢;omega)
 clear c3;have H':=aM H;clear H;go_enter Try.func40,Try.ntmps40
 go_wp2
 repeat (go_quiet (fail);try go_wp2)
 go_loopg [5] k (fun kq v5 w'=>∃ (aA:Int),v5=.int .i64 aA∧Aside0 (Y30.l0 kq l0 l1 aA=some r)∧Aside0 (kq≤k)∧Drawn0 w w')
 case atStart=>exact ⟨(0),xE,H',⟨Nat.le_refl _⟩,by repeat (first|exact Drawn0.refl _|apply Drawn0.step)⟩
 case round =>
  clear H'
  repeat first|clear c1|clear p2|clear c3|clear aN|clear aQ|clear aT
  obtain ⟨aA,rfl,HA,bD,⟨m1,rfl⟩⟩:=hrel;cases gk with
  | zero=>exact absurd HA.out (by simp [Y30.l0])
  | succ k1 =>
   have H:=HA.out;clear HA;simp only [Y30.l0] at H
   by_cases c4:aA<(l0.length:Int)
   case neg =>
    rw [if_neg c4] at H
    have bG:=decide_eq_false c4;clear c4;obtain rfl:=Option.some.inj H;go_wp2
    repeat (go_quiet (fail);try go_wp2)
    go_ret
    exact ⟨by first|rfl|(simp;done)|(simp [*];done),by repeat (first|exact Drawn0.refl _|apply Drawn0.step)⟩
   rw [if_pos c4] at H
   have bG:=decide_eq_true c4;clear c4;obtain ⟨bK,H⟩:=gI H;obtain ⟨bL,H⟩:=gI H
   by_cases c7:((rdOf false l0 aA) != (rdOf false l1 aA))=true
   case pos =>
    rw [if_pos c7] at H
    have bH:((rdOf false l0 aA) != (rdOf false l1 aA))=true:=c7
    (try (have bI:decide ((rdOf false l0 aA)=(rdOf false l1 aA))=false:=by simpa using c7))
    (try (have bJ:((rdOf false l0 aA) == (rdOf false l1 aA))=false:=by simpa using c7))
    (try (have bM:¬ ((rdOf false l0 aA)=(rdOf false l1 aA)):=by simpa using c7))
    clear c7;obtain rfl:=Option.some.inj H;have aC:0≤(aA:Int):=dT;have aD:aA<(l0.length:Int):=dT;obtain ⟨aV,aH,aJ⟩:=Kd.at_bool aX.out aA aC aD;cases aH
    replace aC:=eq_true aC;replace aD:=eq_true aD;have aE:0≤(aA:Int):=dT;have aG:aA<(l1.length:Int):=dT;obtain ⟨aW,aI,aK⟩:=Kd.at_bool bA.out aA aE aG;cases aI
    replace aE:=eq_true aE;replace aG:=eq_true aG;go_wp2
    repeat (go_quiet (fail);try go_wp2)
    go_ret
    exact ⟨by first|rfl|(simp;done)|(simp [*];done),by repeat (first|exact Drawn0.refl _|apply Drawn0.step)⟩
   rw [if_neg c7] at H
   have bH:((rdOf false l0 aA) != (rdOf false l1 aA))=false:=by simpa using c7
   (try (have bI:decide ((rdOf false l0 aA)=(rdOf false l1 aA))=true:=by simpa using c7))
   (try (have bJ:((rdOf false l0 aA) == (rdOf false l1 aA))=true:=by simpa using c7))
   clear c7;have H':=aM H;clear H;have aC:0≤(aA:Int):=dT;have aD:aA<(l0.length:Int):=dT;obtain ⟨aV,aH,aJ⟩:=Kd.at_bool aX.out aA aC aD;cases aH
   replace aC:=eq_true aC;replace aD:=eq_true aD;have aE:0≤(aA:Int):=dT;have aG:aA<(l1.length:Int):=dT;obtain ⟨aW,aI,aK⟩:=Kd.at_bool bA.out aA aE aG;cases aI
   replace aE:=eq_true aE;replace aG:=eq_true aG;go_wp2
   repeat (go_quiet (fail);try go_wp2)
   go_roundg k1
   case measure=>have:=bD.out;omega
   case rel=>exact ⟨(wS aA),xE,H',⟨by have:=bD.out;omega⟩,by repeat (first|exact Drawn0.refl _|apply Drawn0.step)⟩

def Y36.l0:Nat→List Int→List Int→Int→Option (Bool)
 | 0,_,_,_=>none
 | k+1,x0,x1,x5=>if x5<(x0.length:Int) then (if 0≤x5 then (if x5<(x1.length:Int) then (if (rd x0 x5)=(rd x1 x5) then (Y36.l0 k x0 x1 (wrap64 (x5+1))) else (some false)) else (none)) else (none)) else (some true)
def Y36.f (k:Nat) (l0:List Int) (l1:List Int):Option (Bool):=if (l0.length:Int)=(l1.length:Int) then (Y36.l0 k l0 l1 0) else (some false)
theorem Y36.mono_l:∀ k,(∀ y0 y1 y2,LeO (Y36.l0 k y0 y1 y2) (Y36.l0 (k+1) y0 y1 y2))
 | 0=>fun _ _ _ r h=>by simp [Y36.l0] at h
 | k+1=>by
  have ih0:=Y36.mono_l k
  ·intro y0 y1 y2
   unfold Y36.l0
   repeat' first|(with_reducible first|apply ih0|exact lR _|exact lN _|refine lI ?_ ?_|refine lB ?_ fun _=>?_)|exact lN _|refine lI ?_ ?_|refine lB ?_ fun _=>?_
theorem Y36.mono:∀ a0 a1 k,LeO (Y36.f k a0 a1) (Y36.f (k+1) a0 a1):=by
 intro a0 a1 k;have ih0:=Y36.mono_l k;unfold Y36.f
 repeat' first|(with_reducible first|apply ih0|exact lR _|exact lN _|refine lI ?_ ?_|refine lB ?_ fun _=>?_)|exact lN _|refine lI ?_ ?_|refine lB ?_ fun _=>?_
set_option maxHeartbeats 60000000 in
set_option maxRecDepth 100000 in
theorem Y36.calls (k:Nat) (A0:Option Addr) (c0:Nat) (l0:List Int) (A1:Option Addr) (c1:Nat) (l1:List Int) (r:Bool) (w:World) (hr0:Kd.C (Kd.int .i64) w A0 l0.length l0) (hc0:l0.length≤c0) (hr1:Kd.C (Kd.int .i64) w A1 l1.length l1) (hc1:l1.length≤c1) (h:Y36.f k l0 l1=some r) :
  Calls Try.prog 86 #[.slice A0 l0.length c0,.slice A1 l1.length c1] w fun e w'=>e=.returned (.bool r)∧Drawn0 w w':=by
 have aX:=aM hr0;have bL:=aM hc0;clear hr0 hc0;have bA:=aM hr1;have bM:=aM hc1;clear hr1 hc1;have H:(if (l0.length:Int)=(l1.length:Int) then (Y36.l0 k l0 l1 0) else (some false))=some r:=h;clear h
 by_cases c3:(l0.length:Int)=(l1.length:Int)
 case neg =>
  rw [if_neg c3] at H
  have aN:((l0.length:Int) == (l1.length:Int))=false:=beq_eq_false_iff_ne.mpr c3;have aQ:((l0.length:Int) != (l1.length:Int))=true:=bne_iff_ne.mpr c3;have aT:(l0.length == l1.length)=false:=by first|simpa using c3|(simp at c3 ⊢;omega)
  obtain rfl:=Option.some.inj H;go_enter Try.func86,Try.ntmps86
  go_wp2
  repeat (go_quiet (fail);try go_wp2)
  go_ret
  exact ⟨by first|rfl|(simp;done)|(simp [*];done),by repeat (first|exact Drawn0.refl _|apply Drawn0.step)⟩
 rw [if_pos c3] at H
 have aN:((l0.length:Int) == (l1.length:Int))=true:=beq_iff_eq.mpr c3;have aQ:((l0.length:Int) != (l1.length:Int))=false:=bne_eq_false_iff_eq.mpr c3;have aT:(l0.length == l1.length)=true:=by first|simpa using c3|(simp at c3 ⊢;omega)
 clear c3;have H':=aM H;clear H;go_enter Try.func86,Try.ntmps86
 go_wp2
 repeat (go_quiet (fail);try go_wp2)
 go_loopg [5] k (fun kq v5 w'=>∃ (aA:Int),v5=.int .i64 aA∧Aside0 (Y36.l0 kq l0 l1 aA=some r)∧Aside0 (kq≤k)∧Drawn0 w w')
 case atStart=>exact ⟨(0),xE,H',⟨Nat.le_refl _⟩,by repeat (first|exact Drawn0.refl _|apply Drawn0.step)⟩
 case round =>
  clear H'
  repeat first|clear c1|clear p2|clear c3|clear aN|clear aQ|clear aT
  obtain ⟨aA,rfl,HA,bD,⟨m1,rfl⟩⟩:=hrel;cases gk with
  | zero=>exact absurd HA.out (by simp [Y36.l0])
  | succ k1 =>
   have H:=HA.out;clear HA;simp only [Y36.l0] at H
   by_cases c4:aA<(l0.length:Int)
   case neg =>
    rw [if_neg c4] at H
    have bG:=decide_eq_false c4;clear c4;obtain rfl:=Option.some.inj H;go_wp2
    repeat (go_quiet (fail);try go_wp2)
    go_ret
    exact ⟨by first|rfl|(simp;done)|(simp [*];done),by repeat (first|exact Drawn0.refl _|apply Drawn0.step)⟩
   rw [if_pos c4] at H
   have bG:=decide_eq_true c4;clear c4;obtain ⟨bJ,H⟩:=gI H;obtain ⟨bK,H⟩:=gI H
   by_cases c7:(rd l0 aA)=(rd l1 aA)
   case neg =>
    rw [if_neg c7] at H
    have bH:((rd l0 aA) == (rd l1 aA))=false:=beq_eq_false_iff_ne.mpr c7;have bI:((rd l0 aA) != (rd l1 aA))=true:=bne_iff_ne.mpr c7;obtain rfl:=Option.some.inj H;have aC:0≤(aA:Int):=dT;have aD:aA<(l0.length:Int):=dT;obtain ⟨aV,aH,aJ⟩:=Kd.at_int aX.out aA aC aD;cases aH
    replace aC:=eq_true aC;replace aD:=eq_true aD;have aE:0≤(aA:Int):=dT;have aG:aA<(l1.length:Int):=dT;obtain ⟨aW,aI,aK⟩:=Kd.at_int bA.out aA aE aG;cases aI
    replace aE:=eq_true aE;replace aG:=eq_true aG;go_wp2
    repeat (go_quiet (fail);try go_wp2)
    go_ret
    exact ⟨by first|rfl|(simp;done)|(simp [*];done),by repeat (first|exact Drawn0.refl _|apply Drawn0.step)⟩
   rw [if_pos c7] at H
   have bH:((rd l0 aA) == (rd l1 aA))=true:=beq_iff_eq.mpr c7;have bI:((rd l0 aA) != (rd l1 aA))=false:=bne_eq_false_iff_eq.mpr c7;clear c7;have H':=aM H;clear H;have aC:0≤(aA:Int):=dT;have aD:aA<(l0.length:Int):=dT;obtain ⟨aV,aH,aJ⟩:=Kd.at_int aX.out aA aC aD;cases aH
   replace aC:=eq_true aC;replace aD:=eq_true aD;have aE:0≤(aA:Int):=dT;have aG:aA<(l1.length:Int):=dT;obtain ⟨aW,aI,aK⟩:=Kd.at_int bA.out aA aE aG;cases aI
   replace aE:=eq_true aE;replace aG:=eq_true aG;go_wp2
   repeat (go_quiet (fail);try go_wp2)
   go_roundg k1
   case measure=>have:=bD.out;omega
   case rel=>exact ⟨(wS aA),xE,H',⟨by have:=bD.out;omega⟩,by repeat (first|exact Drawn0.refl _|apply Drawn0.step)⟩

def Y53.f (k:Nat) (aA:Int) (aC:List Int) (aD:Int) (aE:List Int):Option (Bool):=if aA=aD then ((Y36.f k aC aE).bind fun aG=>(if aG=true then (some true) else (some false))) else (some false)
theorem Y53.mono:∀ a0 a1 a2 a3 k,LeO (Y53.f k a0 a1 a2 a3) (Y53.f (k+1) a0 a1 a2 a3):=by
 intro a0 a1 a2 a3 k;unfold Y53.f
 repeat' first|(with_reducible first|apply Y36.mono|exact lR _|exact lN _|refine lI ?_ ?_|refine lB ?_ fun _=>?_)|exact lN _|refine lI ?_ ?_|refine lB ?_ fun _=>?_
set_option maxHeartbeats 60000000 in
set_option maxRecDepth 100000 in
theorem Y53.calls (k:Nat) (aH:Int) (aJ:Option Addr) (aK:Nat) (aC:List Int) (aI:Int) (aN:Option Addr) (aQ:Nat) (aD:List Int) (r:Bool) (w:World) (hr0_1:Kd.C (Kd.int .i64) w aJ aC.length aC) (hc0_1:aC.length≤aK) (hr1_1:Kd.C (Kd.int .i64) w aN aD.length aD) (hc1_1:aD.length≤aQ) (h:Y53.f k aH aC aI aD=some r) :
  Calls Try.prog 74 #[.agg #[aH,.slice aJ aC.length aK],.agg #[aI,.slice aN aD.length aQ]] w fun e w'=>e=.returned (.bool r)∧Below w.heap.size w w':=by
 have cA:=Try.underlying60;have aW:=aM hr0_1;have aX:=aM hc0_1;clear hr0_1 hc0_1;have bA:=aM hr1_1;have bD:=aM hc1_1;clear hr1_1 hc1_1;have HB:=aM (Below.refl w.heap.size w);have H:(if aH=aI then ((Y36.f k aC aD).bind fun aV=>(if aV=true then (some true) else (some false))) else (some false))=some r:=h
 clear h
 by_cases c3:aH=aI
 case neg =>
  rw [if_neg c3] at H
  have bN:(aH == aI)=false:=beq_eq_false_iff_ne.mpr c3;have bO:(aH != aI)=true:=bne_iff_ne.mpr c3;obtain rfl:=Option.some.inj H;go_enter Try.func74,Try.ntmps74
  go_wp2_with (first|((with_reducible refine gD (N:=2) rfl ?_);refine bE (N:=2) (cs:=#[aH,.slice aJ aC.length aK]) (t:=60) ?_;intro bG hg cG hbox hb;have aA:=aM (hbox);have bH:=gF hg HB;have bI:=gF hg HB;replace HB:=rS HB hb;clear hb hbox hg)|((with_reducible refine gD (N:=3) rfl ?_);refine bE (N:=3) (cs:=#[aI,.slice aN aD.length aQ]) (t:=60) ?_;intro bJ hg cH hbox hb;have aT:=aM (hbox);have bK:=gF hg HB;have bL:=gF hg HB;have aE:=nM hg aA;have aG:=nH hg aA;replace aA:=rB aA hb;replace HB:=rS HB hb;clear hb hbox hg;have bP:=aE.out;have bQ:=aG.out;have bT:=cA2 aA.out;have bU:=cA2 aT.out))
  go_ret
  exact ⟨xW,bl HB.out⟩
 rw [if_pos c3] at H
 have bN:(aH == aI)=true:=beq_iff_eq.mpr c3;have bO:(aH != aI)=false:=bne_eq_false_iff_eq.mpr c3;clear c3;obtain ⟨aV,bM,H⟩:=hB H;have A4:=aM bM;clear bM
 by_cases c5:aV=true
 case pos =>
  subst c5;replace H:=hP H rfl;obtain rfl:=Option.some.inj H;go_enter Try.func74,Try.ntmps74
  go_wp2_with (first|((with_reducible refine gD (N:=2) rfl ?_);refine bE (N:=2) (cs:=#[aH,.slice aJ aC.length aK]) (t:=60) ?_;intro bG hg w6 hbox hb;have aA:=aM (hbox);have bH:=gF hg HB;have bI:=gF hg HB;replace HB:=rS HB hb;clear hb hbox hg)|((with_reducible refine gD (N:=3) rfl ?_);refine bE (N:=3) (cs:=#[aI,.slice aN aD.length aQ]) (t:=60) ?_;intro bJ hg w7 hbox hb;have aT:=aM (hbox);have bK:=gF hg HB;have bL:=gF hg HB;have aE:=nM hg aA;have aG:=nH hg aA;replace aA:=rB aA hb;replace HB:=rS HB hb;clear hb hbox hg;have cC:=aE.out;have cD:=aG.out;have cE:=cA2 aA.out;have bV:=cA2 aT.out)|((with_reducible refine gC (f:=86) rfl ?_);refine gL (some 14) Try.func86 #[.slice aJ aC.length aK,.slice aN aD.length aQ] ?_;(with_reducible refine (Y36.calls k _ _ aC _ _ aD true _ ?side1 ?side2 ?side3 ?side4 A4.out).mono ?_);(case side1=>exact cM (cB aW.out HB.out));(case side2=>exact aX.out);(case side3=>exact cM (cB bA.out HB.out));(case side4=>exact bD.out);rintro e w' ⟨rfl,⟨nd,rfl⟩⟩;refine ⟨_,rfl,?_⟩))
  go_ret
  exact ⟨xW,bl HB.out⟩
 replace c5:=Bool.eq_false_iff.mpr c5;subst c5;replace H:=hF H;obtain rfl:=Option.some.inj H;go_enter Try.func74,Try.ntmps74
 go_wp2_with (first|((with_reducible refine gD (N:=2) rfl ?_);refine bE (N:=2) (cs:=#[aH,.slice aJ aC.length aK]) (t:=60) ?_;intro bG hg cK hbox hb;have aA:=aM (hbox);have bH:=gF hg HB;have bI:=gF hg HB;replace HB:=rS HB hb;clear hb hbox hg)|((with_reducible refine gD (N:=3) rfl ?_);refine bE (N:=3) (cs:=#[aI,.slice aN aD.length aQ]) (t:=60) ?_;intro bJ hg cL hbox hb;have aT:=aM (hbox);have bK:=gF hg HB;have bL:=gF hg HB;have aE:=nM hg aA;have aG:=nH hg aA;replace aA:=rB aA hb;replace HB:=rS HB hb;clear hb hbox hg;have bW:=aE.out;have bX:=aG.out;have bY:=cA2 aA.out;have bZ:=cA2 aT.out)|((with_reducible refine gC (f:=86) rfl ?_);refine gL (some 14) Try.func86 #[.slice aJ aC.length aK,.slice aN aD.length aQ] ?_;(with_reducible refine (Y36.calls k _ _ aC _ _ aD false _ ?side1 ?side2 ?side3 ?side4 A4.out).mono ?_);(case side1=>exact cM (cB aW.out HB.out));(case side2=>exact aX.out);(case side3=>exact cM (cB bA.out HB.out));(case side4=>exact bD.out);rintro e w' ⟨rfl,⟨nd,rfl⟩⟩;refine ⟨_,rfl,?_⟩))
 go_ret
 exact ⟨xW,bl HB.out⟩

def Y13.l0:Nat→List (S60)→List (S60)→Int→Option (Bool)
 | 0,_,_,_=>none
 | k+1,x0,x1,x5=>if x5<(x0.length:Int) then (if 0≤x5 then (if x5<(x1.length:Int) then ((Y53.f k ((rd_T60 x0 x5).f0) ((rd_T60 x0 x5).f1) ((rd_T60 x1 x5).f0) ((rd_T60 x1 x5).f1)).bind fun aA=>(if aA=true then (Y13.l0 k x0 x1 (wrap64 (x5+1))) else (some false))) else (none)) else (none)) else (some true)
def Y13.f (k:Nat) (l0:List (S60)) (l1:List (S60)):Option (Bool):=if (l0.length:Int)=(l1.length:Int) then (Y13.l0 k l0 l1 0) else (some false)
theorem Y13.mono_l:∀ k,(∀ y0 y1 y2,LeO (Y13.l0 k y0 y1 y2) (Y13.l0 (k+1) y0 y1 y2))
 | 0=>fun _ _ _ r h=>by simp [Y13.l0] at h
 | k+1=>by
  have ih0:=Y13.mono_l k
  ·intro y0 y1 y2
   unfold Y13.l0
   repeat' first|(with_reducible first|apply ih0|apply Y53.mono|exact lR _|exact lN _|refine lI ?_ ?_|refine lB ?_ fun _=>?_)|exact lN _|refine lI ?_ ?_|refine lB ?_ fun _=>?_
theorem Y13.mono:∀ a0 a1 k,LeO (Y13.f k a0 a1) (Y13.f (k+1) a0 a1):=by
 intro a0 a1 k;have ih0:=Y13.mono_l k;unfold Y13.f
 repeat' first|(with_reducible first|apply ih0|apply Y53.mono|exact lR _|exact lN _|refine lI ?_ ?_|refine lB ?_ fun _=>?_)|exact lN _|refine lI ?_ ?_|refine lB ?_ fun _=>?_
def Y13.T6:Bool × List (List Nat × List Nat):=(true,[([],[]),([],[]),([0,1],[0,1]),([2],[2]),([],[]),([],[]),([4,5],[4,5]),([6],[6]),([3,7],[3,7]),([8],[8])])
def Y13.B6:List Nat:=[0,0,3,7,0,0,48,112,255,511]
theorem Y13.tab6:rtab .any (opsOf Try.f41 6)=Y13.T6:=by kernel_rfl
theorem Y13.bits6:waitsOk Y13.T6.2 Y13.B6=true:=by kernel_rfl
set_option maxHeartbeats 60000000 in
set_option maxRecDepth 100000 in
theorem Y13.calls (k:Nat) (A0:Option Addr) (c0:Nat) (l0:List (S60)) (A1:Option Addr) (c1:Nat) (l1:List (S60)) (r:Bool) (w:World) (hr0:Kd.C k60 w A0 l0.length l0) (hc0:l0.length≤c0) (hr1:Kd.C k60 w A1 l1.length l1) (hc1:l1.length≤c1) (h:Y13.f k l0 l1=some r) :
  Calls Try.prog 41 #[.slice A0 l0.length c0,.slice A1 l1.length c1] w fun e w'=>e=.returned (.bool r)∧Below w.heap.size w w':=by
 have bZ:=Try.underlying60;have bT:=aM hr0;have cD:=aM hc0;clear hr0 hc0;have bU:=aM hr1;have cE:=aM hc1;clear hr1 hc1;have HB:=aM (Below.refl w.heap.size w);have H:(if (l0.length:Int)=(l1.length:Int) then (Y13.l0 k l0 l1 0) else (some false))=some r:=h;clear h
 by_cases c3:(l0.length:Int)=(l1.length:Int)
 case neg =>
  rw [if_neg c3] at H
  have bO:((l0.length:Int) == (l1.length:Int))=false:=beq_eq_false_iff_ne.mpr c3;have bP:((l0.length:Int) != (l1.length:Int))=true:=bne_iff_ne.mpr c3;have bQ:(l0.length == l1.length)=false:=by first|simpa using c3|(simp at c3 ⊢;omega)
  obtain rfl:=Option.some.inj H;go_enter Try.func41,Try.ntmps41
  go_wp2
  go_ret
  exact ⟨xW,bl HB.out⟩
 rw [if_pos c3] at H
 have bO:((l0.length:Int) == (l1.length:Int))=true:=beq_iff_eq.mpr c3;have bP:((l0.length:Int) != (l1.length:Int))=false:=bne_eq_false_iff_eq.mpr c3;have bQ:(l0.length == l1.length)=true:=by first|simpa using c3|(simp at c3 ⊢;omega)
 clear c3;have H':=aM H;clear H;go_enter Try.func41,Try.ntmps41
 go_wp2
 go_loopg [5] k (fun kq v5 w'=>∃ (aA:Int),v5=.int .i64 aA∧Aside0 (Y13.l0 kq l0 l1 aA=some r)∧Aside0 (kq≤k)∧Aside0 (Below w.heap.size w w'))
 case atStart=>exact ⟨(0),xE,H',⟨Nat.le_refl _⟩,⟨bl HB.out⟩⟩
 case round =>
  clear H'
  repeat first|clear c1|clear p2|clear c3|clear bO|clear bP|clear bQ
  obtain ⟨aA,rfl,HA,bV,HB⟩:=hrel;cases gk with
  | zero=>exact absurd HA.out (by simp [Y13.l0])
  | succ k1 =>
   have H:=HA.out;clear HA;simp only [Y13.l0] at H
   by_cases c4:aA<(l0.length:Int)
   case neg =>
    rw [if_neg c4] at H
    have bX:=decide_eq_false c4;clear c4;obtain rfl:=Option.some.inj H;go_wp2
    go_ret
    exact ⟨xW,bl HB.out⟩
   rw [if_pos c4] at H
   have bX:=decide_eq_true c4;clear c4;obtain ⟨cA,H⟩:=gI H;obtain ⟨cC,H⟩:=gI H;obtain ⟨bY,bW,H⟩:=hB H;have A7:=aM bW;clear bW
   by_cases c8:bY=true
   case neg =>
    replace c8:=Bool.eq_false_iff.mpr c8;subst c8;replace H:=hF H;obtain rfl:=Option.some.inj H
    try go_wp2
    replace HB:=aM (below_drew1 HB.out);have bG:0≤(aA:Int):=dT;have bH:aA<(l0.length:Int):=dT;obtain ⟨aT,aW,aX,bM,aC,aD,hl566_1,hi566_1⟩:=at_T60 bT.out aA bG bH;have aH:=aD;have aI:=aC;cases bM
    replace aC:=xB HB aC;replace aD:=xB HB aD;have aJ:=aM hi566_1;have bK:=aM hl566_1;clear hi566_1 hl566_1;replace bG:=eq_true bG;replace bH:=eq_true bH;have bI:0≤(aA:Int):=dT;have bJ:aA<(l1.length:Int):=dT;obtain ⟨aV,bA,bD,bN,aE,aG,hl567_1,hi567_1⟩:=at_T60 bU.out aA bI bJ;have aK:=aG;have aN:=aE;cases bN
    replace aE:=xB HB aE;replace aG:=xB HB aG;have aQ:=aM hi567_1;have bL:=aM hl567_1;clear hi567_1 hl567_1;replace bI:=eq_true bI;replace bJ:=eq_true bJ;refine start_ (n:=10) (S:=fun w'=>w'.cell? (aT.add ((aA).toNat*2))=some ((rd_T60 l0 aA).f0)∧w'.cell? ⟨(aT.add ((aA).toNat*2)).block,(aT.add ((aA).toNat*2)).off+1,none⟩=some (.slice aW ((rd_T60 l0 aA).f1).length aX)∧w'.cell? (aV.add ((aA).toNat*2))=some ((rd_T60 l1 aA).f0)∧w'.cell? ⟨(aV.add ((aA).toNat*2)).block,(aV.add ((aA).toNat*2)).off+1,none⟩=some (.slice bA ((rd_T60 l1 aA).f1).length bD)) (ds:=[]) (dn 10 0) (by kernel_rfl) rfl rfl ⟨(xB HB aI :),(xB HB aH :),(xB HB aN :),(xB HB aK :)⟩ (fun hHeld=>?_);refine with_tabW Y13.tab6 Y13.bits6 (fun HT_ HW_=>?_)
    generalize wr.drew=cG at HB aJ aQ aC aD aE aG hHeld ⊢
    refine nY (N:=some 17) HT_ ?_;refine nY (N:=some 18) HT_ ?_;refine nY (N:=some 19) HT_ ?_;refine pZ 4 21 (bv 10 23) HT_ ?_;refine pZ 5 22 (bv 10 55) HT_ ?_;refine pZ 6 23 (bv 10 119) HT_ ?_;refine aZ 3 20 (bv 10 127) HT_ HW_ hHeld ?_;refine aZ 7 24 (bv 10 255) HT_ HW_ hHeld ?_;refine one_ (i:=8) (N:=some 25) (bv 10 511) rfl rfl (one_of HT_.out (by kernel_rfl)) (by decide) (fun K hK=>?_)
    refine goes_ Try.func74 (by kernel_rfl) rfl #[.agg #[((rd_T60 l0 aA).f0),.slice aW ((rd_T60 l0 aA).f1).length aX],.agg #[((rd_T60 l1 aA).f0),.slice bA ((rd_T60 l1 aA).f1).length bD]] (by rfl) rfl rfl xR ?_
    with_reducible refine (Y53.calls k1 ((rd_T60 l0 aA).f0) _ _ ((rd_T60 l0 aA).f1) ((rd_T60 l1 aA).f0) _ _ ((rd_T60 l1 aA).f1) false _ ?side1 ?side2 ?side3 ?side4 A7.out).mono ?_
    (case side1=>exact cM (cB aJ.out HB.out))
    (case side2=>exact bK.out)
    (case side3=>exact cM (cB aQ.out HB.out))
    (case side4=>exact bL.out)
    rintro e cH ⟨rfl,hb⟩;refine ⟨_,rfl,?_⟩;replace HB:=rS HB hb
    (try clear hb)
    (try clear hb2)
    (try clear hk)
    (try clear hi)
    refine hK.out _ _ ⟨(xB HB aI :),(xB HB aH :),(xB HB aN :),(xB HB aK :)⟩ (fun hHeld=>?_)
    clear hK K;refine norm_ (a':=?_) ?_ ?_;rotate_left
    ·show Act.put _ (some 25) _=_
     simp only [Act.put,sA,sZ,sS,i64_w,i32_w]
     rfl
    refine pZ 9 26 (bv 10 1023) HT_ ?_;refine done_ (done_of HT_.out (by kernel_rfl)) ?_
    try go_wp2
    go_ret
    exact ⟨xW,bl HB.out⟩
   subst c8;replace H:=hP H rfl;have H':=aM H;clear H
   try go_wp2
   replace HB:=aM (below_drew1 HB.out);have bG:0≤(aA:Int):=dT;have bH:aA<(l0.length:Int):=dT;obtain ⟨aT,aW,aX,bM,aC,aD,hl566_1,hi566_1⟩:=at_T60 bT.out aA bG bH;have aH:=aD;have aI:=aC;cases bM
   replace aC:=xB HB aC;replace aD:=xB HB aD;have aJ:=aM hi566_1;have bK:=aM hl566_1;clear hi566_1 hl566_1;replace bG:=eq_true bG;replace bH:=eq_true bH;have bI:0≤(aA:Int):=dT;have bJ:aA<(l1.length:Int):=dT;obtain ⟨aV,bA,bD,bN,aE,aG,hl567_1,hi567_1⟩:=at_T60 bU.out aA bI bJ;have aK:=aG;have aN:=aE;cases bN
   replace aE:=xB HB aE;replace aG:=xB HB aG;have aQ:=aM hi567_1;have bL:=aM hl567_1;clear hi567_1 hl567_1;replace bI:=eq_true bI;replace bJ:=eq_true bJ;refine start_ (n:=10) (S:=fun w'=>w'.cell? (aT.add ((aA).toNat*2))=some ((rd_T60 l0 aA).f0)∧w'.cell? ⟨(aT.add ((aA).toNat*2)).block,(aT.add ((aA).toNat*2)).off+1,none⟩=some (.slice aW ((rd_T60 l0 aA).f1).length aX)∧w'.cell? (aV.add ((aA).toNat*2))=some ((rd_T60 l1 aA).f0)∧w'.cell? ⟨(aV.add ((aA).toNat*2)).block,(aV.add ((aA).toNat*2)).off+1,none⟩=some (.slice bA ((rd_T60 l1 aA).f1).length bD)) (ds:=[]) (dn 10 0) (by kernel_rfl) rfl rfl ⟨(xB HB aI :),(xB HB aH :),(xB HB aN :),(xB HB aK :)⟩ (fun hHeld=>?_);refine with_tabW Y13.tab6 Y13.bits6 (fun HT_ HW_=>?_)
   generalize wr.drew=w9 at HB aJ aQ aC aD aE aG hHeld ⊢
   refine nY (N:=some 17) HT_ ?_;refine nY (N:=some 18) HT_ ?_;refine nY (N:=some 19) HT_ ?_;refine pZ 4 21 (bv 10 23) HT_ ?_;refine pZ 5 22 (bv 10 55) HT_ ?_;refine pZ 6 23 (bv 10 119) HT_ ?_;refine aZ 3 20 (bv 10 127) HT_ HW_ hHeld ?_;refine aZ 7 24 (bv 10 255) HT_ HW_ hHeld ?_;refine one_ (i:=8) (N:=some 25) (bv 10 511) rfl rfl (one_of HT_.out (by kernel_rfl)) (by decide) (fun K hK=>?_)
   refine goes_ Try.func74 (by kernel_rfl) rfl #[.agg #[((rd_T60 l0 aA).f0),.slice aW ((rd_T60 l0 aA).f1).length aX],.agg #[((rd_T60 l1 aA).f0),.slice bA ((rd_T60 l1 aA).f1).length bD]] (by rfl) rfl rfl xR ?_
   with_reducible refine (Y53.calls k1 ((rd_T60 l0 aA).f0) _ _ ((rd_T60 l0 aA).f1) ((rd_T60 l1 aA).f0) _ _ ((rd_T60 l1 aA).f1) true _ ?side1 ?side2 ?side3 ?side4 A7.out).mono ?_
   (case side1=>exact cM (cB aJ.out HB.out))
   (case side2=>exact bK.out)
   (case side3=>exact cM (cB aQ.out HB.out))
   (case side4=>exact bL.out)
   rintro e cK ⟨rfl,hb⟩;refine ⟨_,rfl,?_⟩;replace HB:=rS HB hb
   (try clear hb)
   (try clear hb2)
   (try clear hk)
   (try clear hi)
   refine hK.out _ _ ⟨(xB HB aI :),(xB HB aH :),(xB HB aN :),(xB HB aK :)⟩ (fun hHeld=>?_)
   clear hK K;refine norm_ (a':=?_) ?_ ?_;rotate_left
   ·show Act.put _ (some 25) _=_
    simp only [Act.put,sA,sZ,sS,i64_w,i32_w]
    rfl
   refine pZ 9 26 (bv 10 1023) HT_ ?_;refine done_ (done_of HT_.out (by kernel_rfl)) ?_
   try go_wp2
   go_roundg k1
   case measure=>have:=bV.out;omega
   case rel=>exact ⟨(wS aA),xE,H',⟨by have:=bV.out;omega⟩,⟨bl HB.out⟩⟩

def Y82.f (aA aC aD aE aG aH aI aJ:Int):Option (Bool):=if aA=aG then (if aC=aH then (if aD=aI then (if aE=aJ then (some true) else (some false)) else (some false)) else (some false)) else (some false)
set_option maxHeartbeats 60000000 in
set_option maxRecDepth 100000 in
theorem Y82.calls (aE aG aH aI aJ aK aN aQ:Int) (r:Bool) (w:World) (h:Y82.f aE aG aH aI aJ aK aN aQ=some r) :
  Calls Try.prog 75 #[.agg #[aE,aG,aH,aI],.agg #[aJ,aK,aN,aQ]] w fun e w'=>e=.returned (.bool r)∧Below w.heap.size w w':=by
 have cO:=Try.underlying86;have HB:=aM (Below.refl w.heap.size w);have H:(if aE=aJ then (if aG=aK then (if aH=aN then (if aI=aQ then (some true) else (some false)) else (some false)) else (some false)) else (some false))=some r:=h;clear h
 by_cases c3:aE=aJ
 case neg =>
  rw [if_neg c3] at H
  have bH:(aE == aJ)=false:=beq_eq_false_iff_ne.mpr c3;have bI:(aE != aJ)=true:=bne_iff_ne.mpr c3;obtain rfl:=Option.some.inj H;go_enter Try.func75,Try.ntmps75
  go_wp2_with (first|((with_reducible refine gD (N:=2) rfl ?_);refine bE (N:=2) (cs:=#[aE,aG,aH,aI]) (t:=86) ?_;intro aV hg cR hbox hb;have aA:=aM (hbox);have aW:=gF hg HB;have aX:=gF hg HB;replace HB:=rS HB hb;clear hb hbox hg)|((with_reducible refine gD (N:=3) rfl ?_);refine bE (N:=3) (cs:=#[aJ,aK,aN,aQ]) (t:=86) ?_;intro bA hg cS hbox hb;have aT:=aM (hbox);have bD:=gF hg HB;have bG:=gF hg HB;have aC:=nM hg aA;have aD:=nH hg aA;replace aA:=rB aA hb;replace HB:=rS HB hb;clear hb hbox hg;have bP:=aC.out;have bQ:=aD.out;have bT:=cA4 aA.out;have bU:=cA4 aT.out))
  go_ret
  exact ⟨xW,bl HB.out⟩
 rw [if_pos c3] at H
 have bH:(aE == aJ)=true:=beq_iff_eq.mpr c3;have bI:(aE != aJ)=false:=bne_eq_false_iff_eq.mpr c3;clear c3
 by_cases c4:aG=aK
 case neg =>
  rw [if_neg c4] at H
  have bJ:(aG == aK)=false:=beq_eq_false_iff_ne.mpr c4;have bK:(aG != aK)=true:=bne_iff_ne.mpr c4;obtain rfl:=Option.some.inj H;go_enter Try.func75,Try.ntmps75
  go_wp2_with (first|((with_reducible refine gD (N:=2) rfl ?_);refine bE (N:=2) (cs:=#[aE,aG,aH,aI]) (t:=86) ?_;intro aV hg cT hbox hb;have aA:=aM (hbox);have aW:=gF hg HB;have aX:=gF hg HB;replace HB:=rS HB hb;clear hb hbox hg)|((with_reducible refine gD (N:=3) rfl ?_);refine bE (N:=3) (cs:=#[aJ,aK,aN,aQ]) (t:=86) ?_;intro bA hg cU hbox hb;have aT:=aM (hbox);have bD:=gF hg HB;have bG:=gF hg HB;have aC:=nM hg aA;have aD:=nH hg aA;replace aA:=rB aA hb;replace HB:=rS HB hb;clear hb hbox hg;have bV:=aC.out;have bW:=aD.out;have bX:=cA4 aA.out;have bY:=cA4 aT.out))
  go_ret
  exact ⟨xW,bl HB.out⟩
 rw [if_pos c4] at H
 have bJ:(aG == aK)=true:=beq_iff_eq.mpr c4;have bK:(aG != aK)=false:=bne_eq_false_iff_eq.mpr c4;clear c4
 by_cases c5:aH=aN
 case neg =>
  rw [if_neg c5] at H
  have bL:(aH == aN)=false:=beq_eq_false_iff_ne.mpr c5;have bM:(aH != aN)=true:=bne_iff_ne.mpr c5;obtain rfl:=Option.some.inj H;go_enter Try.func75,Try.ntmps75
  go_wp2_with (first|((with_reducible refine gD (N:=2) rfl ?_);refine bE (N:=2) (cs:=#[aE,aG,aH,aI]) (t:=86) ?_;intro aV hg cV hbox hb;have aA:=aM (hbox);have aW:=gF hg HB;have aX:=gF hg HB;replace HB:=rS HB hb;clear hb hbox hg)|((with_reducible refine gD (N:=3) rfl ?_);refine bE (N:=3) (cs:=#[aJ,aK,aN,aQ]) (t:=86) ?_;intro bA hg cW hbox hb;have aT:=aM (hbox);have bD:=gF hg HB;have bG:=gF hg HB;have aC:=nM hg aA;have aD:=nH hg aA;replace aA:=rB aA hb;replace HB:=rS HB hb;clear hb hbox hg;have bZ:=aC.out;have cA:=aD.out;have cC:=cA4 aA.out;have cD:=cA4 aT.out))
  go_ret
  exact ⟨xW,bl HB.out⟩
 rw [if_pos c5] at H
 have bL:(aH == aN)=true:=beq_iff_eq.mpr c5;have bM:(aH != aN)=false:=bne_eq_false_iff_eq.mpr c5;clear c5
 by_cases c6:aI=aQ
 case neg =>
  rw [if_neg c6] at H
  have bN:(aI == aQ)=false:=beq_eq_false_iff_ne.mpr c6;have bO:(aI != aQ)=true:=bne_iff_ne.mpr c6;obtain rfl:=Option.some.inj H;go_enter Try.func75,Try.ntmps75
  go_wp2_with (first|((with_reducible refine gD (N:=2) rfl ?_);refine bE (N:=2) (cs:=#[aE,aG,aH,aI]) (t:=86) ?_;intro aV hg cX hbox hb;have aA:=aM (hbox);have aW:=gF hg HB;have aX:=gF hg HB;replace HB:=rS HB hb;clear hb hbox hg)|((with_reducible refine gD (N:=3) rfl ?_);refine bE (N:=3) (cs:=#[aJ,aK,aN,aQ]) (t:=86) ?_;intro bA hg cY hbox hb;have aT:=aM (hbox);have bD:=gF hg HB;have bG:=gF hg HB;have aC:=nM hg aA;have aD:=nH hg aA;replace aA:=rB aA hb;replace HB:=rS HB hb;clear hb hbox hg;have cE:=aC.out;have cG:=aD.out;have cH:=cA4 aA.out;have cK:=cA4 aT.out))
  go_ret
  exact ⟨xW,bl HB.out⟩
 rw [if_pos c6] at H
 have bN:(aI == aQ)=true:=beq_iff_eq.mpr c6;have bO:(aI != aQ)=false:=bne_eq_false_iff_eq.mpr c6;clear c6;obtain rfl:=Option.some.inj H;go_enter Try.func75,Try.ntmps75
 go_wp2_with (first|((with_reducible refine gD (N:=2) rfl ?_);refine bE (N:=2) (cs:=#[aE,aG,aH,aI]) (t:=86) ?_;intro aV hg w7 hbox hb;have aA:=aM (hbox);have aW:=gF hg HB;have aX:=gF hg HB;replace HB:=rS HB hb;clear hb hbox hg)|((with_reducible refine gD (N:=3) rfl ?_);refine bE (N:=3) (cs:=#[aJ,aK,aN,aQ]) (t:=86) ?_;intro bA hg w8 hbox hb;have aT:=aM (hbox);have bD:=gF hg HB;have bG:=gF hg HB;have aC:=nM hg aA;have aD:=nH hg aA;replace aA:=rB aA hb;replace HB:=rS HB hb;clear hb hbox hg;have cP:=aC.out;have cQ:=aD.out;have cL:=cA4 aA.out;have cN:=cA4 aT.out))
 go_ret
 exact ⟨xW,bl HB.out⟩

end Go.Proofs.Ytfljolhhgheheaa.PFnExactPass
