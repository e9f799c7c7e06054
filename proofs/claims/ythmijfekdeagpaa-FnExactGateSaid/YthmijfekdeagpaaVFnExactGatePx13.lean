/- A part of the proof of laws.FnExactGate. No condition beyond what its theorems say. -/
import Derived.Test.YthmijfekdeagpaaVFnExactGatePx12
namespace Go.Proofs.Ythmijfekdeagpaa.PFnExactGate
open Go.RowKit Go.Proofs.YthmijfekdeagpaaW.PrintWords Go.Proofs.YthmijfekdeagpaaW.PrintLast Go.Proofs.YthmijfekdeagpaaW.PrintMore
set_option linter.unusedVariables false
set_option linter.unusedSimpArgs false

def laws_heldMemberS.l0 : Nat → List (S63) → Int → Int → Option (Int)
 | 0, _, _, _ => none
 | k + 1, x0, x1, x5 => if x5 < (x0.length : Int) then (if 0 ≤ x5 then (if ((rd_T63 x0 x5).f0) = x1 then ((laws_heldIntS.f k ((rd_T63 x0 x5).f1) (wrap64 (x1 + 1))).bind fun aA => (if aA < 0 then (some (-1)) else (laws_heldMemberS.l0 k x0 aA (wrap64 (x5 + 1))))) else (some (-1))) else (none)) else (some x1)
def laws_heldMemberS.f (k : Nat) (l0 : List (S63)) (a1 : Int) : Option (Int) := laws_heldMemberS.l0 k l0 a1 0
theorem laws_heldMemberS.mono_l : ∀ k, (∀ y0 y1 y2, LeO (laws_heldMemberS.l0 k y0 y1 y2) (laws_heldMemberS.l0 (k + 1) y0 y1 y2))
 | 0 => fun _ _ _ r h => by simp [laws_heldMemberS.l0] at h
 | k + 1 => by
  have ih0 := laws_heldMemberS.mono_l k
  ·intro y0 y1 y2
   unfold laws_heldMemberS.l0
   repeat' first|(with_reducible first|apply ih0|apply laws_heldIntS.mono|exact lR _|exact lN _|refine lI ?_ ?_|refine lB ?_ fun _ => ?_)|exact lN _|refine lI ?_ ?_|refine lB ?_ fun _ => ?_
theorem laws_heldMemberS.mono : ∀ a0 a1 k, LeO (laws_heldMemberS.f k a0 a1) (laws_heldMemberS.f (k + 1) a0 a1) := by
 intro a0 a1 k
 have ih0 := laws_heldMemberS.mono_l k
 unfold laws_heldMemberS.f
 repeat' first|(with_reducible first|apply ih0|apply laws_heldIntS.mono|exact lR _|exact lN _|refine lI ?_ ?_|refine lB ?_ fun _ => ?_)|exact lN _|refine lI ?_ ?_|refine lB ?_ fun _ => ?_
set_option maxHeartbeats 60000000 in
set_option maxRecDepth 100000 in
theorem laws_heldMemberS.calls (k : Nat) (A0 : Option Addr) (c0 : Nat) (l0 : List (S63)) (a1 r : Int) (w : World) (hr0 : Kd.C k63 w A0 l0.length l0) (hc0 : l0.length ≤ c0) (h : laws_heldMemberS.f k l0 a1 = some r) :
  Calls Try.prog 95 #[.slice A0 l0.length c0, a1] w fun e w' => e = .returned (.int .i64 r) ∧ Drawn0 w w' := by
 have bK := aM hr0
 have cE := aM hc0
 clear hr0 hc0
 have H : (laws_heldMemberS.l0 k l0 a1 0) = some r := h
 clear h
 have H' := aM H
 clear H
 go_enter Try.func95, Try.ntmps95
 go_wp2
 go_loopg [1, 5] k (fun kq v1 v5 w' => ∃ (aC : Int) (aA : Int), v1 = .int .i64 aC ∧ v5 = .int .i64 aA ∧ Aside0 (laws_heldMemberS.l0 kq l0 aC aA = some r) ∧ Aside0 (kq ≤ k) ∧ Drawn0 w w')
 case atStart => exact ⟨(a1), (0), xE, xE, H', ⟨Nat.le_refl _⟩, by repeat (first | exact Drawn0.refl _ | apply Drawn0.step)⟩
 case round =>
  clear H'
  try clear p2
  obtain ⟨aC, aA, rfl, rfl, HA, bP, ⟨m1, rfl⟩⟩ := hrel
  cases gk with
  | zero => exact absurd HA.out (by simp [laws_heldMemberS.l0])
  | succ k1 =>
   have H := HA.out
   clear HA
   simp only [laws_heldMemberS.l0] at H
   by_cases c3 : aA < (l0.length : Int)
   case neg =>
    rw [if_neg c3] at H
    have bU := decide_eq_false c3
    clear c3
    obtain rfl := Option.some.inj H
    go_wp2
    go_ret
    exact ⟨by first | rfl | (simp; done) | (simp [*]; done), by repeat (first | exact Drawn0.refl _ | apply Drawn0.step)⟩
   rw [if_pos c3] at H
   have bU := decide_eq_true c3
   clear c3
   obtain ⟨cD, H⟩ := gI H
   by_cases c5 : ((rd_T63 l0 aA).f0) = aC
   case neg =>
    rw [if_neg c5] at H
    have bW : (((rd_T63 l0 aA).f0) == aC) = false := beq_eq_false_iff_ne.mpr c5
    have cA : (((rd_T63 l0 aA).f0) != aC) = true := bne_iff_ne.mpr c5
    obtain rfl := Option.some.inj H
    have aD : 0 ≤ (aA : Int) := dT
    have aE : aA < (l0.length : Int) := dT
    obtain ⟨aV, aJ, aK, aW, aX, aG, hl351_1, hi351_1⟩ := at_T63 bK.out aA aD aE
    cases aW
    have bA := aM hi351_1
    have bD := aM hl351_1
    clear hi351_1 hl351_1
    replace aD := eq_true aD
    replace aE := eq_true aE
    go_wp2
    go_ret
    exact ⟨by first | rfl | (simp; done) | (simp [*]; done), by repeat (first | exact Drawn0.refl _ | apply Drawn0.step)⟩
   rw [if_pos c5] at H
   have bW : (((rd_T63 l0 aA).f0) == aC) = true := beq_iff_eq.mpr c5
   have cA : (((rd_T63 l0 aA).f0) != aC) = false := bne_eq_false_iff_eq.mpr c5
   clear c5
   obtain ⟨bI, bQ, H⟩ := hB H
   have A6 := aM bQ
   clear bQ
   by_cases c7 : bI < 0
   case pos =>
    rw [if_pos c7] at H
    have cC := decide_eq_true c7
    clear c7
    obtain rfl := Option.some.inj H
    have aD : 0 ≤ (aA : Int) := dT
    have aE : aA < (l0.length : Int) := dT
    obtain ⟨aV, aJ, aK, aW, aX, aG, hl351_1, hi351_1⟩ := at_T63 bK.out aA aD aE
    cases aW
    have bA := aM hi351_1
    have bD := aM hl351_1
    clear hi351_1 hl351_1
    replace aD := eq_true aD
    replace aE := eq_true aE
    have aH : 0 ≤ (aA : Int) := dT
    have aI : aA < (l0.length : Int) := dT
    obtain ⟨bJ, bN, bO, bL, bM, aN, hl352_1, hi352_1⟩ := at_T63 bK.out aA aH aI
    obtain rfl : aV = bJ := (by injection bL)
    have aQ := aM hi352_1
    have aT := aM hl352_1
    clear hi352_1 hl352_1
    replace aH := eq_true aH
    replace aI := eq_true aI
    have ea_ := Option.some.inj (aG.symm.trans aN)
    injection ea_ with ea_ en_ ec_
    subst ea_
    subst ec_
    clear en_
    go_wp2_with (first | ((with_reducible refine gC (f := 156) rfl ?_); refine gL (some 27) Try.func156 #[.slice aJ ((rd_T63 l0 aA).f1).length aK, .int .i64 (wS aC)] ?_; (with_reducible refine (laws_heldIntS.calls k1 _ _ ((rd_T63 l0 aA).f1) (wS aC) bI _ ?side1 ?side2 A6.out).mono ?_); (case side1 => exact cM aQ.out); (case side2 => exact aT.out); rintro e w' ⟨rfl, ⟨nd, rfl⟩⟩; refine ⟨_, rfl, ?_⟩))
    go_ret
    exact ⟨by first | rfl | (simp; done) | (simp [*]; done), by repeat (first | exact Drawn0.refl _ | apply Drawn0.step)⟩
   rw [if_neg c7] at H
   have cC := decide_eq_false c7
   clear c7
   have H' := aM H
   clear H
   have aD : 0 ≤ (aA : Int) := dT
   have aE : aA < (l0.length : Int) := dT
   obtain ⟨aV, aJ, aK, aW, aX, aG, hl351_1, hi351_1⟩ := at_T63 bK.out aA aD aE
   cases aW
   have bA := aM hi351_1
   have bD := aM hl351_1
   clear hi351_1 hl351_1
   replace aD := eq_true aD
   replace aE := eq_true aE
   have aH : 0 ≤ (aA : Int) := dT
   have aI : aA < (l0.length : Int) := dT
   obtain ⟨bJ, bN, bO, bL, bM, aN, hl352_1, hi352_1⟩ := at_T63 bK.out aA aH aI
   obtain rfl : aV = bJ := (by injection bL)
   have aQ := aM hi352_1
   have aT := aM hl352_1
   clear hi352_1 hl352_1
   replace aH := eq_true aH
   replace aI := eq_true aI
   have ea_ := Option.some.inj (aG.symm.trans aN)
   injection ea_ with ea_ en_ ec_
   subst ea_
   subst ec_
   clear en_
   go_wp2_with (first | ((with_reducible refine gC (f := 156) rfl ?_); refine gL (some 27) Try.func156 #[.slice aJ ((rd_T63 l0 aA).f1).length aK, .int .i64 (wS aC)] ?_; (with_reducible refine (laws_heldIntS.calls k1 _ _ ((rd_T63 l0 aA).f1) (wS aC) bI _ ?side1 ?side2 A6.out).mono ?_); (case side1 => exact cM aQ.out); (case side2 => exact aT.out); rintro e w' ⟨rfl, ⟨nd, rfl⟩⟩; refine ⟨_, rfl, ?_⟩))
   go_roundg k1
   case measure => have := bP.out; omega
   case rel => exact ⟨(bI), (wS aA), xE, xE, H', ⟨by have := bP.out; omega⟩, by repeat (first | exact Drawn0.refl _ | apply Drawn0.step)⟩

def laws_heldHeardS.l0 : Nat → List (S138) → Int → Int → Option (Int)
 | 0, _, _, _ => none
 | k + 1, x0, x1, x5 => if x5 < (x0.length : Int) then (if 0 ≤ x5 then (if ((rd_T138 x0 x5).f0) = x1 then (if ((rd_T138 x0 x5).f1) = (wrap64 (x1 + 1)) then (if ((rd_T138 x0 x5).f2) = (wrap64 ((wrap64 (x1 + 1)) + 1)) then (if ((rd_T138 x0 x5).f3) = (wrap64 ((wrap64 ((wrap64 (x1 + 1)) + 1)) + 1)) then (laws_heldHeardS.l0 k x0 (wrap64 ((wrap64 ((wrap64 ((wrap64 (x1 + 1)) + 1)) + 1)) + 1)) (wrap64 (x5 + 1))) else (some (-1))) else (some (-1))) else (some (-1))) else (some (-1))) else (none)) else (some x1)
def laws_heldHeardS.f (k : Nat) (l0 : List (S138)) (a1 : Int) : Option (Int) := laws_heldHeardS.l0 k l0 a1 0
theorem laws_heldHeardS.mono_l : ∀ k, (∀ y0 y1 y2, LeO (laws_heldHeardS.l0 k y0 y1 y2) (laws_heldHeardS.l0 (k + 1) y0 y1 y2))
 | 0 => fun _ _ _ r h => by simp [laws_heldHeardS.l0] at h
 | k + 1 => by
  have ih0 := laws_heldHeardS.mono_l k
  ·intro y0 y1 y2
   unfold laws_heldHeardS.l0
   repeat' first|(with_reducible first|apply ih0|exact lR _|exact lN _|refine lI ?_ ?_|refine lB ?_ fun _ => ?_)|exact lN _|refine lI ?_ ?_|refine lB ?_ fun _ => ?_
theorem laws_heldHeardS.mono : ∀ a0 a1 k, LeO (laws_heldHeardS.f k a0 a1) (laws_heldHeardS.f (k + 1) a0 a1) := by
 intro a0 a1 k
 have ih0 := laws_heldHeardS.mono_l k
 unfold laws_heldHeardS.f
 repeat' first|(with_reducible first|apply ih0|exact lR _|exact lN _|refine lI ?_ ?_|refine lB ?_ fun _ => ?_)|exact lN _|refine lI ?_ ?_|refine lB ?_ fun _ => ?_
set_option maxHeartbeats 60000000 in
set_option maxRecDepth 100000 in
theorem laws_heldHeardS.calls (k : Nat) (A0 : Option Addr) (c0 : Nat) (l0 : List (S138)) (a1 r : Int) (w : World) (hr0 : Kd.C k138 w A0 l0.length l0) (hc0 : l0.length ≤ c0) (h : laws_heldHeardS.f k l0 a1 = some r) :
  Calls Try.prog 96 #[.slice A0 l0.length c0, a1] w fun e w' => e = .returned (.int .i64 r) ∧ Drawn0 w w' := by
 have aN := aM hr0
 have cX := aM hc0
 clear hr0 hc0
 have H : (laws_heldHeardS.l0 k l0 a1 0) = some r := h
 clear h
 have H' := aM H
 clear H
 go_enter Try.func96, Try.ntmps96
 go_wp2
 go_loopg [1, 5] k (fun kq v1 v5 w' => ∃ (aC : Int) (aA : Int), v1 = .int .i64 aC ∧ v5 = .int .i64 aA ∧ Aside0 (laws_heldHeardS.l0 kq l0 aC aA = some r) ∧ Aside0 (kq ≤ k) ∧ Drawn0 w w')
 case atStart => exact ⟨(a1), (0), xE, xE, H', ⟨Nat.le_refl _⟩, by repeat (first | exact Drawn0.refl _ | apply Drawn0.step)⟩
 case round =>
  clear H'
  try clear p2
  obtain ⟨aC, aA, rfl, rfl, HA, cL, ⟨m1, rfl⟩⟩ := hrel
  cases gk with
  | zero => exact absurd HA.out (by simp [laws_heldHeardS.l0])
  | succ k1 =>
   have H := HA.out
   clear HA
   simp only [laws_heldHeardS.l0] at H
   by_cases c3 : aA < (l0.length : Int)
   case neg =>
    rw [if_neg c3] at H
    have cN := decide_eq_false c3
    clear c3
    obtain rfl := Option.some.inj H
    go_wp2
    go_ret
    exact ⟨by first | rfl | (simp; done) | (simp [*]; done), by repeat (first | exact Drawn0.refl _ | apply Drawn0.step)⟩
   rw [if_pos c3] at H
   have cN := decide_eq_true c3
   clear c3
   obtain ⟨cW, H⟩ := gI H
   by_cases c5 : ((rd_T138 l0 aA).f0) = aC
   case neg =>
    rw [if_neg c5] at H
    have cO : (((rd_T138 l0 aA).f0) == aC) = false := beq_eq_false_iff_ne.mpr c5
    have cP : (((rd_T138 l0 aA).f0) != aC) = true := bne_iff_ne.mpr c5
    obtain rfl := Option.some.inj H
    have aD : 0 ≤ (aA : Int) := dT
    have aE : aA < (l0.length : Int) := dT
    obtain ⟨aG, aQ, aV, aW, aX, bA⟩ := at_T138 aN.out aA aD aE
    cases aQ
    replace aD := eq_true aD
    replace aE := eq_true aE
    go_wp2
    go_ret
    exact ⟨by first | rfl | (simp; done) | (simp [*]; done), by repeat (first | exact Drawn0.refl _ | apply Drawn0.step)⟩
   rw [if_pos c5] at H
   have cO : (((rd_T138 l0 aA).f0) == aC) = true := beq_iff_eq.mpr c5
   have cP : (((rd_T138 l0 aA).f0) != aC) = false := bne_eq_false_iff_eq.mpr c5
   clear c5
   by_cases c6 : ((rd_T138 l0 aA).f1) = (wS aC)
   case neg =>
    rw [if_neg c6] at H
    have cQ : (((rd_T138 l0 aA).f1) == (wS aC)) = false := beq_eq_false_iff_ne.mpr c6
    have cR : (((rd_T138 l0 aA).f1) != (wS aC)) = true := bne_iff_ne.mpr c6
    obtain rfl := Option.some.inj H
    have aD : 0 ≤ (aA : Int) := dT
    have aE : aA < (l0.length : Int) := dT
    obtain ⟨aG, aQ, aV, aW, aX, bA⟩ := at_T138 aN.out aA aD aE
    cases aQ
    replace aD := eq_true aD
    replace aE := eq_true aE
    have aH : 0 ≤ (aA : Int) := dT
    have aI : aA < (l0.length : Int) := dT
    obtain ⟨aT, bD, bL, bM, bN, bO⟩ := at_T138 aN.out aA aH aI
    obtain rfl : aG = aT := (by injection bD)
    replace aH := eq_true aH
    replace aI := eq_true aI
    go_wp2
    go_ret
    exact ⟨by first | rfl | (simp; done) | (simp [*]; done), by repeat (first | exact Drawn0.refl _ | apply Drawn0.step)⟩
   rw [if_pos c6] at H
   have cQ : (((rd_T138 l0 aA).f1) == (wS aC)) = true := beq_iff_eq.mpr c6
   have cR : (((rd_T138 l0 aA).f1) != (wS aC)) = false := bne_eq_false_iff_eq.mpr c6
   clear c6
   by_cases c7 : ((rd_T138 l0 aA).f2) = (wS (wS aC))
   case neg =>
    rw [if_neg c7] at H
    have cS : (((rd_T138 l0 aA).f2) == (wS (wS aC))) = false := beq_eq_false_iff_ne.mpr c7
    have cT : (((rd_T138 l0 aA).f2) != (wS (wS aC))) = true := bne_iff_ne.mpr c7
    obtain rfl := Option.some.inj H
    have aD : 0 ≤ (aA : Int) := dT
    have aE : aA < (l0.length : Int) := dT
    obtain ⟨aG, aQ, aV, aW, aX, bA⟩ := at_T138 aN.out aA aD aE
    cases aQ
    replace aD := eq_true aD
    replace aE := eq_true aE
    have aH : 0 ≤ (aA : Int) := dT
    have aI : aA < (l0.length : Int) := dT
    obtain ⟨aT, bD, bL, bM, bN, bO⟩ := at_T138 aN.out aA aH aI
    obtain rfl : aG = aT := (by injection bD)
    replace aH := eq_true aH
    replace aI := eq_true aI
    have aJ : 0 ≤ (aA : Int) := dT
    have aK : aA < (l0.length : Int) := dT
    obtain ⟨bK, bP, bQ, bU, bW, cA⟩ := at_T138 aN.out aA aJ aK
    obtain rfl : aG = bK := (by injection bP)
    replace aJ := eq_true aJ
    replace aK := eq_true aK
    go_wp2
    go_ret
    exact ⟨by first | rfl | (simp; done) | (simp [*]; done), by repeat (first | exact Drawn0.refl _ | apply Drawn0.step)⟩
   rw [if_pos c7] at H
   have cS : (((rd_T138 l0 aA).f2) == (wS (wS aC))) = true := beq_iff_eq.mpr c7
   have cT : (((rd_T138 l0 aA).f2) != (wS (wS aC))) = false := bne_eq_false_iff_eq.mpr c7
   clear c7
   by_cases c8 : ((rd_T138 l0 aA).f3) = (wS (wS (wS aC)))
   case neg =>
    rw [if_neg c8] at H
    have cU : (((rd_T138 l0 aA).f3) == (wS (wS (wS aC)))) = false := beq_eq_false_iff_ne.mpr c8
    have cV : (((rd_T138 l0 aA).f3) != (wS (wS (wS aC)))) = true := bne_iff_ne.mpr c8
    obtain rfl := Option.some.inj H
    have aD : 0 ≤ (aA : Int) := dT
    have aE : aA < (l0.length : Int) := dT
    obtain ⟨aG, aQ, aV, aW, aX, bA⟩ := at_T138 aN.out aA aD aE
    cases aQ
    replace aD := eq_true aD
    replace aE := eq_true aE
    have aH : 0 ≤ (aA : Int) := dT
    have aI : aA < (l0.length : Int) := dT
    obtain ⟨aT, bD, bL, bM, bN, bO⟩ := at_T138 aN.out aA aH aI
    obtain rfl : aG = aT := (by injection bD)
    replace aH := eq_true aH
    replace aI := eq_true aI
    have aJ : 0 ≤ (aA : Int) := dT
    have aK : aA < (l0.length : Int) := dT
    obtain ⟨bK, bP, bQ, bU, bW, cA⟩ := at_T138 aN.out aA aJ aK
    obtain rfl : aG = bK := (by injection bP)
    replace aJ := eq_true aJ
    replace aK := eq_true aK
    have bI : 0 ≤ (aA : Int) := dT
    have bJ : aA < (l0.length : Int) := dT
    obtain ⟨cC, cD, cE, cG, cH, cK⟩ := at_T138 aN.out aA bI bJ
    obtain rfl : aG = cC := (by injection cD)
    replace bI := eq_true bI
    replace bJ := eq_true bJ
    go_wp2
    go_ret
    exact ⟨by first | rfl | (simp; done) | (simp [*]; done), by repeat (first | exact Drawn0.refl _ | apply Drawn0.step)⟩
   rw [if_pos c8] at H
   have cU : (((rd_T138 l0 aA).f3) == (wS (wS (wS aC)))) = true := beq_iff_eq.mpr c8
   have cV : (((rd_T138 l0 aA).f3) != (wS (wS (wS aC)))) = false := bne_eq_false_iff_eq.mpr c8
   clear c8
   have H' := aM H
   clear H
   have aD : 0 ≤ (aA : Int) := dT
   have aE : aA < (l0.length : Int) := dT
   obtain ⟨aG, aQ, aV, aW, aX, bA⟩ := at_T138 aN.out aA aD aE
   cases aQ
   replace aD := eq_true aD
   replace aE := eq_true aE
   have aH : 0 ≤ (aA : Int) := dT
   have aI : aA < (l0.length : Int) := dT
   obtain ⟨aT, bD, bL, bM, bN, bO⟩ := at_T138 aN.out aA aH aI
   obtain rfl : aG = aT := (by injection bD)
   replace aH := eq_true aH
   replace aI := eq_true aI
   have aJ : 0 ≤ (aA : Int) := dT
   have aK : aA < (l0.length : Int) := dT
   obtain ⟨bK, bP, bQ, bU, bW, cA⟩ := at_T138 aN.out aA aJ aK
   obtain rfl : aG = bK := (by injection bP)
   replace aJ := eq_true aJ
   replace aK := eq_true aK
   have bI : 0 ≤ (aA : Int) := dT
   have bJ : aA < (l0.length : Int) := dT
   obtain ⟨cC, cD, cE, cG, cH, cK⟩ := at_T138 aN.out aA bI bJ
   obtain rfl : aG = cC := (by injection cD)
   replace bI := eq_true bI
   replace bJ := eq_true bJ
   go_wp2
   go_roundg k1
   case measure => have := cL.out; omega
   case rel => exact ⟨(wS (wS (wS (wS aC)))), (wS aA), xE, xE, H', ⟨by have := cL.out; omega⟩, by repeat (first | exact Drawn0.refl _ | apply Drawn0.step)⟩

def laws_heldCard.f (k : Nat) (aE : List Bool) (aG : List (S63)) (aH : List (S138)) (a1 : Int) : Option (Int) := (laws_heldBoolS.f k aE a1).bind fun aA => (if aA < 0 then (some (-1)) else ((laws_heldMemberS.f k aG aA).bind fun aC => (if aC < 0 then (some (-1)) else ((laws_heldHeardS.f k aH aC).bind fun aD => (if aD < 0 then (some (-1)) else (some aD))))))
theorem laws_heldCard.mono : ∀ a0 a1 a2 a3 k, LeO (laws_heldCard.f k a0 a1 a2 a3) (laws_heldCard.f (k + 1) a0 a1 a2 a3) := by
 intro a0 a1 a2 a3 k
 unfold laws_heldCard.f
 repeat' first|(with_reducible first|apply laws_heldBoolS.mono|apply laws_heldHeardS.mono|apply laws_heldMemberS.mono|exact lR _|exact lN _|refine lI ?_ ?_|refine lB ?_ fun _ => ?_)|exact lN _|refine lI ?_ ?_|refine lB ?_ fun _ => ?_
set_option maxHeartbeats 60000000 in
set_option maxRecDepth 100000 in
theorem laws_heldCard.calls (k : Nat) (aH : Option Addr) (aI : Nat) (aA : List Bool) (aJ : Option Addr) (aK : Nat) (aC : List (S63)) (aQ : Option Addr) (aT : Nat) (aD : List (S138)) (a1 r : Int) (w : World) (hr0_0 : Kd.C Kd.bool w aH aA.length aA) (hc0_0 : aA.length ≤ aI) (hr0_1 : Kd.C k63 w aJ aC.length aC) (hc0_1 : aC.length ≤ aK) (hr0_2 : Kd.C k138 w aQ aD.length aD) (hc0_2 : aD.length ≤ aT) (h : laws_heldCard.f k aA aC aD a1 = some r) :
  Calls Try.prog 25 #[.agg #[.slice aH aA.length aI, .slice aJ aC.length aK, .slice aQ aD.length aT], a1] w fun e w' => e = .returned (.int .i64 r) ∧ Below w.heap.size w w' := by
 have cH := Try.underlying43
 have aW := aM hr0_0
 have aX := aM hc0_0
 clear hr0_0 hc0_0
 have bD := aM hr0_1
 have bI := aM hc0_1
 clear hr0_1 hc0_1
 have bM := aM hr0_2
 have bN := aM hc0_2
 clear hr0_2 hc0_2
 have HB := aM (Below.refl w.heap.size w)
 have H : ((laws_heldBoolS.f k aA a1).bind fun aE => (if aE < 0 then (some (-1)) else ((laws_heldMemberS.f k aC aE).bind fun aG => (if aG < 0 then (some (-1)) else ((laws_heldHeardS.f k aD aG).bind fun aV => (if aV < 0 then (some (-1)) else (some aV))))))) = some r := h
 clear h
 obtain ⟨aE, bQ, H⟩ := hB H
 have A3 := aM bQ
 clear bQ
 by_cases c4 : aE < 0
 case pos =>
  rw [if_pos c4] at H
  have cA := decide_eq_true c4
  clear c4
  obtain rfl := Option.some.inj H
  go_enter Try.func25, Try.ntmps25
  go_wp2_with (first | ((with_reducible refine gD (N := 2) rfl ?_); refine bE (N := 2) (cs := #[.slice aH aA.length aI, .slice aJ aC.length aK, .slice aQ aD.length aT]) (t := 43) ?_; intro bJ hg w5 hbox hb; have aN := aM (hbox); have bK := gF hg HB; have bL := gF hg HB; replace HB := rS HB hb; clear hb hbox hg; have cK := cA3 aN.out) | ((with_reducible refine gC (f := 94) rfl ?_); refine gL (some 8) Try.func94 #[.slice aH aA.length aI, a1] ?_; (with_reducible refine (laws_heldBoolS.calls k _ _ aA a1 aE _ ?side1 ?side2 A3.out).mono ?_); (case side1 => exact cM (cB aW.out HB.out)); (case side2 => exact aX.out); rintro e w' ⟨rfl, ⟨nd, rfl⟩⟩; refine ⟨_, rfl, ?_⟩))
  go_ret
  exact ⟨xW, bl HB.out⟩
 rw [if_neg c4] at H
 have cA := decide_eq_false c4
 clear c4
 obtain ⟨aG, bU, H⟩ := hB H
 have A7 := aM bU
 clear bU
 by_cases c8 : aG < 0
 case pos =>
  rw [if_pos c8] at H
  have cC := decide_eq_true c8
  clear c8
  obtain rfl := Option.some.inj H
  go_enter Try.func25, Try.ntmps25
  go_wp2_with (first | ((with_reducible refine gD (N := 2) rfl ?_); refine bE (N := 2) (cs := #[.slice aH aA.length aI, .slice aJ aC.length aK, .slice aQ aD.length aT]) (t := 43) ?_; intro bJ hg w9 hbox hb; have aN := aM (hbox); have bK := gF hg HB; have bL := gF hg HB; replace HB := rS HB hb; clear hb hbox hg; have cD := cA3 aN.out) | ((with_reducible refine gC (f := 94) rfl ?_); refine gL (some 8) Try.func94 #[.slice aH aA.length aI, a1] ?_; (with_reducible refine (laws_heldBoolS.calls k _ _ aA a1 aE _ ?side1 ?side2 A3.out).mono ?_); (case side1 => exact cM (cB aW.out HB.out)); (case side2 => exact aX.out); rintro e w' ⟨rfl, ⟨nd, rfl⟩⟩; refine ⟨_, rfl, ?_⟩) | ((with_reducible refine gC (f := 95) rfl ?_); refine gL (some 14) Try.func95 #[.slice aJ aC.length aK, aE] ?_; (with_reducible refine (laws_heldMemberS.calls k _ _ aC aE aG _ ?side1 ?side2 A7.out).mono ?_); (case side1 => exact cM (cB bD.out (bl HB.out))); (case side2 => exact bI.out); rintro e w' ⟨rfl, ⟨nd, rfl⟩⟩; refine ⟨_, rfl, ?_⟩))
  go_ret
  exact ⟨xW, bl HB.out⟩
 rw [if_neg c8] at H
 have cC := decide_eq_false c8
 clear c8
 obtain ⟨aV, bO, H⟩ := hB H
 have bW := aM bO
 clear bO
 by_cases bA : aV < 0
 case pos =>
  rw [if_pos bA] at H
  have bP := decide_eq_true bA
  clear bA
  obtain rfl := Option.some.inj H
  go_enter Try.func25, Try.ntmps25
  go_wp2_with (first | ((with_reducible refine gD (N := 2) rfl ?_); refine bE (N := 2) (cs := #[.slice aH aA.length aI, .slice aJ aC.length aK, .slice aQ aD.length aT]) (t := 43) ?_; intro bJ hg cL hbox hb; have aN := aM (hbox); have bK := gF hg HB; have bL := gF hg HB; replace HB := rS HB hb; clear hb hbox hg; have cE := cA3 aN.out) | ((with_reducible refine gC (f := 94) rfl ?_); refine gL (some 8) Try.func94 #[.slice aH aA.length aI, a1] ?_; (with_reducible refine (laws_heldBoolS.calls k _ _ aA a1 aE _ ?side1 ?side2 A3.out).mono ?_); (case side1 => exact cM (cB aW.out HB.out)); (case side2 => exact aX.out); rintro e w' ⟨rfl, ⟨nd, rfl⟩⟩; refine ⟨_, rfl, ?_⟩) | ((with_reducible refine gC (f := 95) rfl ?_); refine gL (some 14) Try.func95 #[.slice aJ aC.length aK, aE] ?_; (with_reducible refine (laws_heldMemberS.calls k _ _ aC aE aG _ ?side1 ?side2 A7.out).mono ?_); (case side1 => exact cM (cB bD.out (bl HB.out))); (case side2 => exact bI.out); rintro e w' ⟨rfl, ⟨nd, rfl⟩⟩; refine ⟨_, rfl, ?_⟩) | ((with_reducible refine gC (f := 96) rfl ?_); refine gL (some 20) Try.func96 #[.slice aQ aD.length aT, aG] ?_; (with_reducible refine (laws_heldHeardS.calls k _ _ aD aG aV _ ?side1 ?side2 bW.out).mono ?_); (case side1 => exact cM (cB bM.out (bl HB.out))); (case side2 => exact bN.out); rintro e w' ⟨rfl, ⟨nd, rfl⟩⟩; refine ⟨_, rfl, ?_⟩))
  go_ret
  exact ⟨xW, bl HB.out⟩
 rw [if_neg bA] at H
 have bP := decide_eq_false bA
 clear bA
 obtain rfl := Option.some.inj H
 go_enter Try.func25, Try.ntmps25
 go_wp2_with (first | ((with_reducible refine gD (N := 2) rfl ?_); refine bE (N := 2) (cs := #[.slice aH aA.length aI, .slice aJ aC.length aK, .slice aQ aD.length aT]) (t := 43) ?_; intro bJ hg cN hbox hb; have aN := aM (hbox); have bK := gF hg HB; have bL := gF hg HB; replace HB := rS HB hb; clear hb hbox hg; have cG := cA3 aN.out) | ((with_reducible refine gC (f := 94) rfl ?_); refine gL (some 8) Try.func94 #[.slice aH aA.length aI, a1] ?_; (with_reducible refine (laws_heldBoolS.calls k _ _ aA a1 aE _ ?side1 ?side2 A3.out).mono ?_); (case side1 => exact cM (cB aW.out HB.out)); (case side2 => exact aX.out); rintro e w' ⟨rfl, ⟨nd, rfl⟩⟩; refine ⟨_, rfl, ?_⟩) | ((with_reducible refine gC (f := 95) rfl ?_); refine gL (some 14) Try.func95 #[.slice aJ aC.length aK, aE] ?_; (with_reducible refine (laws_heldMemberS.calls k _ _ aC aE aG _ ?side1 ?side2 A7.out).mono ?_); (case side1 => exact cM (cB bD.out (bl HB.out))); (case side2 => exact bI.out); rintro e w' ⟨rfl, ⟨nd, rfl⟩⟩; refine ⟨_, rfl, ?_⟩) | ((with_reducible refine gC (f := 96) rfl ?_); refine gL (some 20) Try.func96 #[.slice aQ aD.length aT, aG] ?_; (with_reducible refine (laws_heldHeardS.calls k _ _ aD aG aV _ ?side1 ?side2 bW.out).mono ?_); (case side1 => exact cM (cB bM.out (bl HB.out))); (case side2 => exact bN.out); rintro e w' ⟨rfl, ⟨nd, rfl⟩⟩; refine ⟨_, rfl, ?_⟩))
 go_ret
 exact ⟨xW, bl HB.out⟩

-- NOT PRINTED: function 4 (laws_FnExactGate)

end Go.Proofs.Ythmijfekdeagpaa.PFnExactGate
