/- A part of the proof of laws.FnCards. No condition beyond what its theorems say. -/
import Derived.Test.YtjodolkdelffaaaVFnCardsPx1
namespace Go.Proofs.Ytjodolkdelffaaa.PFnCards
open Go.RowKit Go.Proofs.YtjodolkdelffaaaW.PrintWords Go.Proofs.YtjodolkdelffaaaW.PrintLast Go.Proofs.YtjodolkdelffaaaW.PrintMore
set_option linter.unusedVariables false
set_option linter.unusedSimpArgs false

attribute [local go_sem high] eqA72
def Z25.l0:Nat→List Bool→List Bool→Int→Option (Bool)
 | 0,_,_,_=>none
 | k+1,x0,x1,x5=>if x5<(x0.length:Int) then (if 0≤x5 then (if x5<(x1.length:Int) then (if ((rdOf false x0 x5) != (rdOf false x1 x5))=true then (some false) else (Z25.l0 k x0 x1 (wrap64 (x5+1)))) else (none)) else (none)) else (some true)
def Z25.f (k:Nat) (l0:List Bool) (l1:List Bool):Option (Bool):=if (l0.length:Int)=(l1.length:Int) then (Z25.l0 k l0 l1 0) else (some false)
theorem Z25.mono_l:∀ k,(∀ y0 y1 y2,LeO (Z25.l0 k y0 y1 y2) (Z25.l0 (k+1) y0 y1 y2))
 | 0=>fun _ _ _ r h=>by simp [Z25.l0] at h
 | k+1=>by
  have ih0:=Z25.mono_l k
  ·intro y0 y1 y2
   unfold Z25.l0
   repeat' (with_reducible first|apply ih0|exact lR _|refine lI ?_ ?_)
theorem Z25.mono:∀ a0 a1 k,LeO (Z25.f k a0 a1) (Z25.f (k+1) a0 a1):=by
 intro a0 a1 k;have ih0:=Z25.mono_l k;unfold Z25.f
 repeat' (with_reducible first|apply ih0|exact lR _|refine lI ?_ ?_)
set_option maxHeartbeats 60000000 in
set_option maxRecDepth 100000 in
theorem Z25.calls (k:Nat) (A0:Option Addr) (c0:Nat) (l0:List Bool) (A1:Option Addr) (c1:Nat) (l1:List Bool) (r:Bool) (w:World) (hr0:Kd.C Kd.bool w A0 l0.length l0) (hc0:l0.length≤c0) (hr1:Kd.C Kd.bool w A1 l1.length l1) (hc1:l1.length≤c1) (h:Z25.f k l0 l1=some r) :
  Calls Try.prog 36 #[.slice A0 l0.length c0,.slice A1 l1.length c1] w fun e w'=>e=.returned (.bool r)∧Drawn0 w w':=by
 have aX:=aM hr0;clear hr0 hc0;have bA:=aM hr1;clear hr1 hc1;have H:(if (l0.length:Int)=(l1.length:Int) then (Z25.l0 k l0 l1 0) else (some false))=some r:=h;clear h
 by_cases c3:(l0.length:Int)=(l1.length:Int)
 case neg =>
  rw [if_neg c3] at H
  have aN:((l0.length:Int) == (l1.length:Int))=false:=beq_eq_false_iff_ne.mpr c3;have aQ:((l0.length:Int) != (l1.length:Int))=true:=bne_iff_ne.mpr c3;have aT:(l0.length == l1.length)=false:=by (simp at c3 ⊢;omega)
  obtain rfl:=Option.some.inj H;go_enter Try.func36,Try.ntmps36
  go_wp2
  repeat (go_quiet (fail))
  go_ret
  exact ⟨by rfl,by repeat (exact Drawn0.refl _)⟩
 rw [if_pos c3] at H
 have aN:((l0.length:Int) == (l1.length:Int))=true:=beq_iff_eq.mpr c3;have aQ:((l0.length:Int) != (l1.length:Int))=false:=bne_eq_false_iff_eq.mpr c3;have aT:(l0.length == l1.length)=true:=by (simp at c3 ⊢;omega)
 clear c3;have H':=aM H;clear H;go_enter Try.func36,Try.ntmps36
 go_wp2
 repeat (go_quiet (fail))
 go_loopg [5] k (fun kq v5 w'=>∃ (aA:Int),v5=.int .i64 aA∧Aside0 (Z25.l0 kq l0 l1 aA=some r)∧Aside0 (kq≤k)∧Drawn0 w w')
 case atStart=>exact ⟨(0),xE,H',⟨Nat.le_refl _⟩,by repeat (exact Drawn0.refl _)⟩
 case round =>
  clear H'
  repeat first|clear aN|clear aQ|clear aT
  obtain ⟨aA,rfl,HA,bD,⟨m1,rfl⟩⟩:=hrel;cases gk with
  | zero=>exact absurd HA.out (by simp [Z25.l0])
  | succ k1 =>
   have H:=HA.out;clear HA;simp only [Z25.l0] at H
   by_cases c4:aA<(l0.length:Int)
   case neg =>
    rw [if_neg c4] at H
    have bG:=decide_eq_false c4;clear c4;obtain rfl:=Option.some.inj H;go_wp2
    repeat (go_quiet (fail))
    go_ret
    exact ⟨by rfl,by repeat (first|exact Drawn0.refl _|apply Drawn0.step)⟩
   rw [if_pos c4] at H
   have bG:=decide_eq_true c4;clear c4;obtain ⟨bK,H⟩:=gI H;obtain ⟨bL,H⟩:=gI H
   by_cases c7:((rdOf false l0 aA) != (rdOf false l1 aA))=true
   case pos =>
    rw [if_pos c7] at H
    (try (skip))
    (try (have bJ:((rdOf false l0 aA) == (rdOf false l1 aA))=false:=by simpa using c7))
    (try (skip))
    clear c7;obtain rfl:=Option.some.inj H;have aC:0≤(aA:Int):=dT;have aD:aA<(l0.length:Int):=dT;obtain ⟨aV,aH,aJ⟩:=Kd.at_bool aX.out aA aC aD;cases aH
    replace aC:=eq_true aC;replace aD:=eq_true aD;have aE:0≤(aA:Int):=dT;have aG:aA<(l1.length:Int):=dT;obtain ⟨aW,aI,aK⟩:=Kd.at_bool bA.out aA aE aG;cases aI
    replace aE:=eq_true aE;replace aG:=eq_true aG;go_wp2
    repeat (go_quiet (fail);try go_wp2)
    go_ret
    exact ⟨by rfl,by repeat (first|exact Drawn0.refl _|apply Drawn0.step)⟩
   rw [if_neg c7] at H
   (try (skip))
   (try (have bJ:((rdOf false l0 aA) == (rdOf false l1 aA))=true:=by simpa using c7))
   clear c7;have H':=aM H;clear H;have aC:0≤(aA:Int):=dT;have aD:aA<(l0.length:Int):=dT;obtain ⟨aV,aH,aJ⟩:=Kd.at_bool aX.out aA aC aD;cases aH
   replace aC:=eq_true aC;replace aD:=eq_true aD;have aE:0≤(aA:Int):=dT;have aG:aA<(l1.length:Int):=dT;obtain ⟨aW,aI,aK⟩:=Kd.at_bool bA.out aA aE aG;cases aI
   replace aE:=eq_true aE;replace aG:=eq_true aG;go_wp2
   repeat (go_quiet (fail);try go_wp2)
   go_roundg k1
   case measure=>have:=bD.out;omega
   case rel=>exact ⟨(wS aA),xE,H',⟨by have:=bD.out;omega⟩,by repeat (first|exact Drawn0.refl _|apply Drawn0.step)⟩

def Z34.l0:Nat→List (S72)→List (S72)→Int→Option (Bool)
 | 0,_,_,_=>none
 | k+1,x0,x1,x5=>if x5<(x0.length:Int) then (if 0≤x5 then (if x5<(x1.length:Int) then (if (!(((rd_T72 x0 x5).f0) == ((rd_T72 x1 x5).f0)) || (!(((rd_T72 x0 x5).f1) == ((rd_T72 x1 x5).f1)) || (!(((rd_T72 x0 x5).f2) == ((rd_T72 x1 x5).f2)) || (!(((rd_T72 x0 x5).f3) == ((rd_T72 x1 x5).f3))))))=true then (some false) else (Z34.l0 k x0 x1 (wrap64 (x5+1)))) else (none)) else (none)) else (some true)
def Z34.f (k:Nat) (l0:List (S72)) (l1:List (S72)):Option (Bool):=if (l0.length:Int)=(l1.length:Int) then (Z34.l0 k l0 l1 0) else (some false)
theorem Z34.mono_l:∀ k,(∀ y0 y1 y2,LeO (Z34.l0 k y0 y1 y2) (Z34.l0 (k+1) y0 y1 y2))
 | 0=>fun _ _ _ r h=>by simp [Z34.l0] at h
 | k+1=>by
  have ih0:=Z34.mono_l k
  ·intro y0 y1 y2
   unfold Z34.l0
   repeat' (with_reducible first|apply ih0|exact lR _|refine lI ?_ ?_)
theorem Z34.mono:∀ a0 a1 k,LeO (Z34.f k a0 a1) (Z34.f (k+1) a0 a1):=by
 intro a0 a1 k;have ih0:=Z34.mono_l k;unfold Z34.f
 repeat' (with_reducible first|apply ih0|exact lR _|refine lI ?_ ?_)
set_option maxHeartbeats 60000000 in
set_option maxRecDepth 100000 in
theorem Z34.calls (k:Nat) (A0:Option Addr) (c0:Nat) (l0:List (S72)) (A1:Option Addr) (c1:Nat) (l1:List (S72)) (r:Bool) (w:World) (hr0:Kd.C k72 w A0 l0.length l0) (hc0:l0.length≤c0) (hr1:Kd.C k72 w A1 l1.length l1) (hc1:l1.length≤c1) (h:Z34.f k l0 l1=some r) :
  Calls Try.prog 37 #[.slice A0 l0.length c0,.slice A1 l1.length c1] w fun e w'=>e=.returned (.bool r)∧Drawn0 w w':=by
 have bJ:=aM hr0;clear hr0 hc0;have bK:=aM hr1;clear hr1 hc1;have H:(if (l0.length:Int)=(l1.length:Int) then (Z34.l0 k l0 l1 0) else (some false))=some r:=h;clear h
 by_cases c3:(l0.length:Int)=(l1.length:Int)
 case neg =>
  rw [if_neg c3] at H
  have bA:((l0.length:Int) == (l1.length:Int))=false:=beq_eq_false_iff_ne.mpr c3;have bD:((l0.length:Int) != (l1.length:Int))=true:=bne_iff_ne.mpr c3;have bG:(l0.length == l1.length)=false:=by (simp at c3 ⊢;omega)
  obtain rfl:=Option.some.inj H;go_enter Try.func37,Try.ntmps37
  go_wp2
  repeat (go_quiet (fail))
  go_ret
  exact ⟨by rfl,by repeat (exact Drawn0.refl _)⟩
 rw [if_pos c3] at H
 have bA:((l0.length:Int) == (l1.length:Int))=true:=beq_iff_eq.mpr c3;have bD:((l0.length:Int) != (l1.length:Int))=false:=bne_eq_false_iff_eq.mpr c3;have bG:(l0.length == l1.length)=true:=by (simp at c3 ⊢;omega)
 clear c3;have H':=aM H;clear H;go_enter Try.func37,Try.ntmps37
 go_wp2
 repeat (go_quiet (fail))
 go_loopg [5] k (fun kq v5 w'=>∃ (aA:Int),v5=.int .i64 aA∧Aside0 (Z34.l0 kq l0 l1 aA=some r)∧Aside0 (kq≤k)∧Drawn0 w w')
 case atStart=>exact ⟨(0),xE,H',⟨Nat.le_refl _⟩,by repeat (exact Drawn0.refl _)⟩
 case round =>
  clear H'
  repeat first|clear bA|clear bD|clear bG
  obtain ⟨aA,rfl,HA,bL,⟨m1,rfl⟩⟩:=hrel;cases gk with
  | zero=>exact absurd HA.out (by simp [Z34.l0])
  | succ k1 =>
   have H:=HA.out;clear HA;simp only [Z34.l0] at H
   by_cases c4:aA<(l0.length:Int)
   case neg =>
    rw [if_neg c4] at H
    have bM:=decide_eq_false c4;clear c4;obtain rfl:=Option.some.inj H;go_wp2
    repeat (go_quiet (fail))
    go_ret
    exact ⟨by rfl,by repeat (first|exact Drawn0.refl _|apply Drawn0.step)⟩
   rw [if_pos c4] at H
   have bM:=decide_eq_true c4;clear c4;obtain ⟨bP,H⟩:=gI H;obtain ⟨bQ,H⟩:=gI H
   by_cases c7:(!(((rd_T72 l0 aA).f0) == ((rd_T72 l1 aA).f0)) || (!(((rd_T72 l0 aA).f1) == ((rd_T72 l1 aA).f1)) || (!(((rd_T72 l0 aA).f2) == ((rd_T72 l1 aA).f2)) || (!(((rd_T72 l0 aA).f3) == ((rd_T72 l1 aA).f3))))))=true
   case pos =>
    rw [if_pos c7] at H
    have bN:(!(((rd_T72 l0 aA).f0) == ((rd_T72 l1 aA).f0)) || (!(((rd_T72 l0 aA).f1) == ((rd_T72 l1 aA).f1)) || (!(((rd_T72 l0 aA).f2) == ((rd_T72 l1 aA).f2)) || (!(((rd_T72 l0 aA).f3) == ((rd_T72 l1 aA).f3))))))=true:=c7;clear c7;obtain rfl:=Option.some.inj H;have aC:0≤(aA:Int):=dT;have aD:aA<(l0.length:Int):=dT;obtain ⟨bH,aH,aJ,aK,aN,aQ⟩:=at_T72 bJ.out aA aC aD;cases aH
    replace aC:=eq_true aC;replace aD:=eq_true aD;have aE:0≤(aA:Int):=dT;have aG:aA<(l1.length:Int):=dT;obtain ⟨bI,aI,aT,aV,aW,aX⟩:=at_T72 bK.out aA aE aG;cases aI
    replace aE:=eq_true aE;replace aG:=eq_true aG;go_wp2
    repeat (go_quiet (fail);try go_wp2)
    go_ret
    exact ⟨by rfl,by repeat (first|exact Drawn0.refl _|apply Drawn0.step)⟩
   rw [if_neg c7] at H
   have bN:(!(((rd_T72 l0 aA).f0) == ((rd_T72 l1 aA).f0)) || (!(((rd_T72 l0 aA).f1) == ((rd_T72 l1 aA).f1)) || (!(((rd_T72 l0 aA).f2) == ((rd_T72 l1 aA).f2)) || (!(((rd_T72 l0 aA).f3) == ((rd_T72 l1 aA).f3))))))=false:=by simpa using c7
   clear c7;have H':=aM H;clear H;have aC:0≤(aA:Int):=dT;have aD:aA<(l0.length:Int):=dT;obtain ⟨bH,aH,aJ,aK,aN,aQ⟩:=at_T72 bJ.out aA aC aD;cases aH
   replace aC:=eq_true aC;replace aD:=eq_true aD;have aE:0≤(aA:Int):=dT;have aG:aA<(l1.length:Int):=dT;obtain ⟨bI,aI,aT,aV,aW,aX⟩:=at_T72 bK.out aA aE aG;cases aI
   replace aE:=eq_true aE;replace aG:=eq_true aG;go_wp2
   repeat (go_quiet (fail);try go_wp2)
   go_roundg k1
   case measure=>have:=bL.out;omega
   case rel=>exact ⟨(wS aA),xE,H',⟨by have:=bL.out;omega⟩,by repeat (first|exact Drawn0.refl _|apply Drawn0.step)⟩

def Z27.l0:Nat→List Int→List Int→Int→Option (Bool)
 | 0,_,_,_=>none
 | k+1,x0,x1,x5=>if x5<(x0.length:Int) then (if 0≤x5 then (if x5<(x1.length:Int) then (if (rd x0 x5)=(rd x1 x5) then (Z27.l0 k x0 x1 (wrap64 (x5+1))) else (some false)) else (none)) else (none)) else (some true)
def Z27.f (k:Nat) (l0:List Int) (l1:List Int):Option (Bool):=if (l0.length:Int)=(l1.length:Int) then (Z27.l0 k l0 l1 0) else (some false)
theorem Z27.mono_l:∀ k,(∀ y0 y1 y2,LeO (Z27.l0 k y0 y1 y2) (Z27.l0 (k+1) y0 y1 y2))
 | 0=>fun _ _ _ r h=>by simp [Z27.l0] at h
 | k+1=>by
  have ih0:=Z27.mono_l k
  ·intro y0 y1 y2
   unfold Z27.l0
   repeat' (with_reducible first|apply ih0|exact lR _|refine lI ?_ ?_)
theorem Z27.mono:∀ a0 a1 k,LeO (Z27.f k a0 a1) (Z27.f (k+1) a0 a1):=by
 intro a0 a1 k;have ih0:=Z27.mono_l k;unfold Z27.f
 repeat' (with_reducible first|apply ih0|exact lR _|refine lI ?_ ?_)
set_option maxHeartbeats 60000000 in
set_option maxRecDepth 100000 in
theorem Z27.calls (k:Nat) (A0:Option Addr) (c0:Nat) (l0:List Int) (A1:Option Addr) (c1:Nat) (l1:List Int) (r:Bool) (w:World) (hr0:Kd.C (Kd.int .i64) w A0 l0.length l0) (hc0:l0.length≤c0) (hr1:Kd.C (Kd.int .i64) w A1 l1.length l1) (hc1:l1.length≤c1) (h:Z27.f k l0 l1=some r) :
  Calls Try.prog 38 #[.slice A0 l0.length c0,.slice A1 l1.length c1] w fun e w'=>e=.returned (.bool r)∧Drawn0 w w':=by
 have aX:=aM hr0;clear hr0 hc0;have bA:=aM hr1;clear hr1 hc1;have H:(if (l0.length:Int)=(l1.length:Int) then (Z27.l0 k l0 l1 0) else (some false))=some r:=h;clear h
 by_cases c3:(l0.length:Int)=(l1.length:Int)
 case neg =>
  rw [if_neg c3] at H
  have aN:((l0.length:Int) == (l1.length:Int))=false:=beq_eq_false_iff_ne.mpr c3;have aQ:((l0.length:Int) != (l1.length:Int))=true:=bne_iff_ne.mpr c3;have aT:(l0.length == l1.length)=false:=by (simp at c3 ⊢;omega)
  obtain rfl:=Option.some.inj H;go_enter Try.func38,Try.ntmps38
  go_wp2
  repeat (go_quiet (fail))
  go_ret
  exact ⟨by rfl,by repeat (exact Drawn0.refl _)⟩
 rw [if_pos c3] at H
 have aN:((l0.length:Int) == (l1.length:Int))=true:=beq_iff_eq.mpr c3;have aQ:((l0.length:Int) != (l1.length:Int))=false:=bne_eq_false_iff_eq.mpr c3;have aT:(l0.length == l1.length)=true:=by (simp at c3 ⊢;omega)
 clear c3;have H':=aM H;clear H;go_enter Try.func38,Try.ntmps38
 go_wp2
 repeat (go_quiet (fail))
 go_loopg [5] k (fun kq v5 w'=>∃ (aA:Int),v5=.int .i64 aA∧Aside0 (Z27.l0 kq l0 l1 aA=some r)∧Aside0 (kq≤k)∧Drawn0 w w')
 case atStart=>exact ⟨(0),xE,H',⟨Nat.le_refl _⟩,by repeat (exact Drawn0.refl _)⟩
 case round =>
  clear H'
  repeat first|clear aN|clear aQ|clear aT
  obtain ⟨aA,rfl,HA,bD,⟨m1,rfl⟩⟩:=hrel;cases gk with
  | zero=>exact absurd HA.out (by simp [Z27.l0])
  | succ k1 =>
   have H:=HA.out;clear HA;simp only [Z27.l0] at H
   by_cases c4:aA<(l0.length:Int)
   case neg =>
    rw [if_neg c4] at H
    have bG:=decide_eq_false c4;clear c4;obtain rfl:=Option.some.inj H;go_wp2
    repeat (go_quiet (fail))
    go_ret
    exact ⟨by rfl,by repeat (first|exact Drawn0.refl _|apply Drawn0.step)⟩
   rw [if_pos c4] at H
   have bG:=decide_eq_true c4;clear c4;obtain ⟨bJ,H⟩:=gI H;obtain ⟨bK,H⟩:=gI H
   by_cases c7:(rd l0 aA)=(rd l1 aA)
   case neg =>
    rw [if_neg c7] at H
    have bI:((rd l0 aA) != (rd l1 aA))=true:=bne_iff_ne.mpr c7;obtain rfl:=Option.some.inj H;have aC:0≤(aA:Int):=dT;have aD:aA<(l0.length:Int):=dT;obtain ⟨aV,aH,aJ⟩:=Kd.at_int aX.out aA aC aD;cases aH
    replace aC:=eq_true aC;replace aD:=eq_true aD;have aE:0≤(aA:Int):=dT;have aG:aA<(l1.length:Int):=dT;obtain ⟨aW,aI,aK⟩:=Kd.at_int bA.out aA aE aG;cases aI
    replace aE:=eq_true aE;replace aG:=eq_true aG;go_wp2
    repeat (go_quiet (fail);try go_wp2)
    go_ret
    exact ⟨by rfl,by repeat (first|exact Drawn0.refl _|apply Drawn0.step)⟩
   rw [if_pos c7] at H
   have bI:((rd l0 aA) != (rd l1 aA))=false:=bne_eq_false_iff_eq.mpr c7;clear c7;have H':=aM H;clear H;have aC:0≤(aA:Int):=dT;have aD:aA<(l0.length:Int):=dT;obtain ⟨aV,aH,aJ⟩:=Kd.at_int aX.out aA aC aD;cases aH
   replace aC:=eq_true aC;replace aD:=eq_true aD;have aE:0≤(aA:Int):=dT;have aG:aA<(l1.length:Int):=dT;obtain ⟨aW,aI,aK⟩:=Kd.at_int bA.out aA aE aG;cases aI
   replace aE:=eq_true aE;replace aG:=eq_true aG;go_wp2
   repeat (go_quiet (fail);try go_wp2)
   go_roundg k1
   case measure=>have:=bD.out;omega
   case rel=>exact ⟨(wS aA),xE,H',⟨by have:=bD.out;omega⟩,by repeat (first|exact Drawn0.refl _|apply Drawn0.step)⟩

end Go.Proofs.Ytjodolkdelffaaa.PFnCards
