/- A part of the proof of laws.FnExactReact. No condition beyond what its theorems say. -/
import Derived.Test.YthmijfekdeagpaaVFnExactReactPx0
namespace Go.Proofs.Ythmijfekdeagpaa.PFnExactReact
open Go.RowKit Go.Proofs.YthmijfekdeagpaaW.PrintWords Go.Proofs.YthmijfekdeagpaaW.PrintLast Go.Proofs.YthmijfekdeagpaaW.PrintMore
set_option linter.unusedVariables false
set_option linter.unusedSimpArgs false

def Z23.l0 : Nat → List (S151) → Int → Int → Option (Int)
 | 0, _, _, _ => none
 | k + 1, x0, x1, x5 => if x5 < (x0.length : Int) then (if 0 ≤ x5 then (if ((rd_T151 x0 x5).f0) = x1 then (if ((rd_T151 x0 x5).f1) = (wrap64 (x1 + 1)) then (if ((rd_T151 x0 x5).f2.f0) = (wrap64 ((wrap64 (x1 + 1)) + 1)) then (if ((rd_T151 x0 x5).f2.f1) = (wrap64 ((wrap64 ((wrap64 (x1 + 1)) + 1)) + 1)) then (if ((rd_T151 x0 x5).f2.f2) = (wrap64 ((wrap64 ((wrap64 ((wrap64 (x1 + 1)) + 1)) + 1)) + 1)) then (if ((rd_T151 x0 x5).f2.f3) = (wrap64 ((wrap64 ((wrap64 ((wrap64 ((wrap64 (x1 + 1)) + 1)) + 1)) + 1)) + 1)) then (if ((rd_T151 x0 x5).f3) = (wrap64 ((wrap64 ((wrap64 ((wrap64 ((wrap64 ((wrap64 (x1 + 1)) + 1)) + 1)) + 1)) + 1)) + 1)) then (if (((rd_T151 x0 x5).f4) != ((Int.tmod (wrap64 ((wrap64 ((wrap64 ((wrap64 ((wrap64 ((wrap64 ((wrap64 (x1 + 1)) + 1)) + 1)) + 1)) + 1)) + 1)) + 1)) 3) == 0)) = true then (some (-1)) else (Z23.l0 k x0 (wrap64 ((wrap64 ((wrap64 ((wrap64 ((wrap64 ((wrap64 ((wrap64 ((wrap64 (x1 + 1)) + 1)) + 1)) + 1)) + 1)) + 1)) + 1)) + 1)) (wrap64 (x5 + 1)))) else (some (-1))) else (some (-1))) else (some (-1))) else (some (-1))) else (some (-1))) else (some (-1))) else (some (-1))) else (none)) else (some x1)
def Z23.f (k : Nat) (l0 : List (S151)) (a1 : Int) : Option (Int) := Z23.l0 k l0 a1 0
theorem Z23.mono_l : ∀ k, (∀ y0 y1 y2, LeO (Z23.l0 k y0 y1 y2) (Z23.l0 (k + 1) y0 y1 y2))
 | 0 => fun _ _ _ r h => by simp [Z23.l0] at h
 | k + 1 => by
  have ih0 := Z23.mono_l k
  ·intro y0 y1 y2
   unfold Z23.l0
   repeat' first|(with_reducible first|apply ih0|exact lR _|exact lN _|refine lI ?_ ?_|refine lB ?_ fun _ => ?_)|exact lN _|refine lI ?_ ?_|refine lB ?_ fun _ => ?_
theorem Z23.mono : ∀ a0 a1 k, LeO (Z23.f k a0 a1) (Z23.f (k + 1) a0 a1) := by
 intro a0 a1 k
 have ih0 := Z23.mono_l k
 unfold Z23.f
 repeat' first|(with_reducible first|apply ih0|exact lR _|exact lN _|refine lI ?_ ?_|refine lB ?_ fun _ => ?_)|exact lN _|refine lI ?_ ?_|refine lB ?_ fun _ => ?_
set_option maxHeartbeats 60000000 in
set_option maxRecDepth 100000 in
theorem Z23.calls (k : Nat) (A0 : Option Addr) (c0 : Nat) (l0 : List (S151)) (a1 r : Int) (w : World) (hr0 : Kd.C k151 w A0 l0.length l0) (hc0 : l0.length ≤ c0) (h : Z23.f k l0 a1 = some r) :
  Calls Try.prog 58 #[.slice A0 l0.length c0, a1] w fun e w' => e = .returned (.int .i64 r) ∧ Drawn0 w w' := by
 have aH := aM hr0
 have fT := aM hc0
 clear hr0 hc0
 have H : (Z23.l0 k l0 a1 0) = some r := h
 clear h
 have H' := aM H
 clear H
 go_enter Try.func58, Try.ntmps58
 go_wp2
 go_loopg [1, 5] k (fun kq v1 v5 w' => ∃ (aD : Int) (aA : Int), v1 = .int .i64 aD ∧ v5 = .int .i64 aA ∧ Aside0 (Z23.l0 kq l0 aD aA = some r) ∧ Aside0 (kq ≤ k) ∧ Drawn0 w w')
 case atStart => exact ⟨(a1), (0), xE, xE, H', ⟨Nat.le_refl _⟩, by repeat (first | exact Drawn0.refl _ | apply Drawn0.step)⟩
 case round =>
  clear H'
  try clear p2
  obtain ⟨aD, aA, rfl, rfl, HA, fD, ⟨m1, rfl⟩⟩ := hrel
  cases gk with
  | zero => exact absurd HA.out (by simp [Z23.l0])
  | succ k1 =>
   have H := HA.out
   clear HA
   simp only [Z23.l0] at H
   by_cases c3 : aA < (l0.length : Int)
   case neg =>
    rw [if_neg c3] at H
    have fE := decide_eq_false c3
    clear c3
    obtain rfl := Option.some.inj H
    go_wp2
    go_ret
    exact ⟨by first | rfl | (simp; done) | (simp [*]; done), by repeat (first | exact Drawn0.refl _ | apply Drawn0.step)⟩
   rw [if_pos c3] at H
   have fE := decide_eq_true c3
   clear c3
   obtain ⟨fS, H⟩ := gI H
   by_cases c5 : ((rd_T151 l0 aA).f0) = aD
   case neg =>
    rw [if_neg c5] at H
    have fF : (((rd_T151 l0 aA).f0) == aD) = false := beq_eq_false_iff_ne.mpr c5
    have fG : (((rd_T151 l0 aA).f0) != aD) = true := bne_iff_ne.mpr c5
    obtain rfl := Option.some.inj H
    have aE : 0 ≤ (aA : Int) := dT
    have aG : aA < (l0.length : Int) := dT
    obtain ⟨aC, bA, bJ, bK, bL, bM, bN, bO, bP, bQ⟩ := at_T151 aH.out aA aE aG
    cases bA
    replace aE := eq_true aE
    replace aG := eq_true aG
    go_wp2
    go_ret
    exact ⟨by first | rfl | (simp; done) | (simp [*]; done), by repeat (first | exact Drawn0.refl _ | apply Drawn0.step)⟩
   rw [if_pos c5] at H
   have fF : (((rd_T151 l0 aA).f0) == aD) = true := beq_iff_eq.mpr c5
   have fG : (((rd_T151 l0 aA).f0) != aD) = false := bne_eq_false_iff_eq.mpr c5
   clear c5
   by_cases c6 : ((rd_T151 l0 aA).f1) = (wS aD)
   case neg =>
    rw [if_neg c6] at H
    have fH : (((rd_T151 l0 aA).f1) == (wS aD)) = false := beq_eq_false_iff_ne.mpr c6
    have fI : (((rd_T151 l0 aA).f1) != (wS aD)) = true := bne_iff_ne.mpr c6
    obtain rfl := Option.some.inj H
    have aE : 0 ≤ (aA : Int) := dT
    have aG : aA < (l0.length : Int) := dT
    obtain ⟨aC, bA, bJ, bK, bL, bM, bN, bO, bP, bQ⟩ := at_T151 aH.out aA aE aG
    cases bA
    replace aE := eq_true aE
    replace aG := eq_true aG
    have aI : 0 ≤ (aA : Int) := dT
    have aJ : aA < (l0.length : Int) := dT
    obtain ⟨aV, bG, bU, bV, bW, bX, bY, bZ, cA, cC⟩ := at_T151 aH.out aA aI aJ
    obtain rfl : aC = aV := (by injection bG)
    replace aI := eq_true aI
    replace aJ := eq_true aJ
    go_wp2
    go_ret
    exact ⟨by first | rfl | (simp; done) | (simp [*]; done), by repeat (first | exact Drawn0.refl _ | apply Drawn0.step)⟩
   rw [if_pos c6] at H
   have fH : (((rd_T151 l0 aA).f1) == (wS aD)) = true := beq_iff_eq.mpr c6
   have fI : (((rd_T151 l0 aA).f1) != (wS aD)) = false := bne_eq_false_iff_eq.mpr c6
   clear c6
   by_cases c7 : ((rd_T151 l0 aA).f2.f0) = (wS (wS aD))
   case neg =>
    rw [if_neg c7] at H
    have fK : (((rd_T151 l0 aA).f2.f0) == (wS (wS aD))) = false := beq_eq_false_iff_ne.mpr c7
    have fL : (((rd_T151 l0 aA).f2.f0) != (wS (wS aD))) = true := bne_iff_ne.mpr c7
    obtain rfl := Option.some.inj H
    have aE : 0 ≤ (aA : Int) := dT
    have aG : aA < (l0.length : Int) := dT
    obtain ⟨aC, bA, bJ, bK, bL, bM, bN, bO, bP, bQ⟩ := at_T151 aH.out aA aE aG
    cases bA
    replace aE := eq_true aE
    replace aG := eq_true aG
    have aI : 0 ≤ (aA : Int) := dT
    have aJ : aA < (l0.length : Int) := dT
    obtain ⟨aV, bG, bU, bV, bW, bX, bY, bZ, cA, cC⟩ := at_T151 aH.out aA aI aJ
    obtain rfl : aC = aV := (by injection bG)
    replace aI := eq_true aI
    replace aJ := eq_true aJ
    have aK : 0 ≤ (aA : Int) := dT
    have aN : aA < (l0.length : Int) := dT
    obtain ⟨bD, cD, cG, cH, cK, cL, cN, cO, cP, cQ⟩ := at_T151 aH.out aA aK aN
    obtain rfl : aC = bD := (by injection cD)
    replace aK := eq_true aK
    replace aN := eq_true aN
    go_wp2
    go_ret
    exact ⟨by first | rfl | (simp; done) | (simp [*]; done), by repeat (first | exact Drawn0.refl _ | apply Drawn0.step)⟩
   rw [if_pos c7] at H
   have fK : (((rd_T151 l0 aA).f2.f0) == (wS (wS aD))) = true := beq_iff_eq.mpr c7
   have fL : (((rd_T151 l0 aA).f2.f0) != (wS (wS aD))) = false := bne_eq_false_iff_eq.mpr c7
   clear c7
   by_cases c8 : ((rd_T151 l0 aA).f2.f1) = (wS (wS (wS aD)))
   case neg =>
    rw [if_neg c8] at H
    have fM : (((rd_T151 l0 aA).f2.f1) == (wS (wS (wS aD)))) = false := beq_eq_false_iff_ne.mpr c8
    have fN : (((rd_T151 l0 aA).f2.f1) != (wS (wS (wS aD)))) = true := bne_iff_ne.mpr c8
    obtain rfl := Option.some.inj H
    have aE : 0 ≤ (aA : Int) := dT
    have aG : aA < (l0.length : Int) := dT
    obtain ⟨aC, bA, bJ, bK, bL, bM, bN, bO, bP, bQ⟩ := at_T151 aH.out aA aE aG
    cases bA
    replace aE := eq_true aE
    replace aG := eq_true aG
    have aI : 0 ≤ (aA : Int) := dT
    have aJ : aA < (l0.length : Int) := dT
    obtain ⟨aV, bG, bU, bV, bW, bX, bY, bZ, cA, cC⟩ := at_T151 aH.out aA aI aJ
    obtain rfl : aC = aV := (by injection bG)
    replace aI := eq_true aI
    replace aJ := eq_true aJ
    have aK : 0 ≤ (aA : Int) := dT
    have aN : aA < (l0.length : Int) := dT
    obtain ⟨bD, cD, cG, cH, cK, cL, cN, cO, cP, cQ⟩ := at_T151 aH.out aA aK aN
    obtain rfl : aC = bD := (by injection cD)
    replace aK := eq_true aK
    replace aN := eq_true aN
    have aQ : 0 ≤ (aA : Int) := dT
    have aT : aA < (l0.length : Int) := dT
    obtain ⟨bT, cR, cU, cV, cW, cX, cY, dA, dB, dC⟩ := at_T151 aH.out aA aQ aT
    obtain rfl : aC = bT := (by injection cR)
    replace aQ := eq_true aQ
    replace aT := eq_true aT
    go_wp2
    go_ret
    exact ⟨by first | rfl | (simp; done) | (simp [*]; done), by repeat (first | exact Drawn0.refl _ | apply Drawn0.step)⟩
   rw [if_pos c8] at H
   have fM : (((rd_T151 l0 aA).f2.f1) == (wS (wS (wS aD)))) = true := beq_iff_eq.mpr c8
   have fN : (((rd_T151 l0 aA).f2.f1) != (wS (wS (wS aD)))) = false := bne_eq_false_iff_eq.mpr c8
   clear c8
   by_cases c9 : ((rd_T151 l0 aA).f2.f2) = (wS (wS (wS (wS aD))))
   case neg =>
    rw [if_neg c9] at H
    have fO : (((rd_T151 l0 aA).f2.f2) == (wS (wS (wS (wS aD))))) = false := beq_eq_false_iff_ne.mpr c9
    have fP : (((rd_T151 l0 aA).f2.f2) != (wS (wS (wS (wS aD))))) = true := bne_iff_ne.mpr c9
    obtain rfl := Option.some.inj H
    have aE : 0 ≤ (aA : Int) := dT
    have aG : aA < (l0.length : Int) := dT
    obtain ⟨aC, bA, bJ, bK, bL, bM, bN, bO, bP, bQ⟩ := at_T151 aH.out aA aE aG
    cases bA
    replace aE := eq_true aE
    replace aG := eq_true aG
    have aI : 0 ≤ (aA : Int) := dT
    have aJ : aA < (l0.length : Int) := dT
    obtain ⟨aV, bG, bU, bV, bW, bX, bY, bZ, cA, cC⟩ := at_T151 aH.out aA aI aJ
    obtain rfl : aC = aV := (by injection bG)
    replace aI := eq_true aI
    replace aJ := eq_true aJ
    have aK : 0 ≤ (aA : Int) := dT
    have aN : aA < (l0.length : Int) := dT
    obtain ⟨bD, cD, cG, cH, cK, cL, cN, cO, cP, cQ⟩ := at_T151 aH.out aA aK aN
    obtain rfl : aC = bD := (by injection cD)
    replace aK := eq_true aK
    replace aN := eq_true aN
    have aQ : 0 ≤ (aA : Int) := dT
    have aT : aA < (l0.length : Int) := dT
    obtain ⟨bT, cR, cU, cV, cW, cX, cY, dA, dB, dC⟩ := at_T151 aH.out aA aQ aT
    obtain rfl : aC = bT := (by injection cR)
    replace aQ := eq_true aQ
    replace aT := eq_true aT
    have aW : 0 ≤ (aA : Int) := dT
    have aX : aA < (l0.length : Int) := dT
    obtain ⟨cE, dD, dG, dH, dI, dJ, dK, dL, dM, dN⟩ := at_T151 aH.out aA aW aX
    obtain rfl : aC = cE := (by injection dD)
    replace aW := eq_true aW
    replace aX := eq_true aX
    go_wp2
    go_ret
    exact ⟨by first | rfl | (simp; done) | (simp [*]; done), by repeat (first | exact Drawn0.refl _ | apply Drawn0.step)⟩
   rw [if_pos c9] at H
   have fO : (((rd_T151 l0 aA).f2.f2) == (wS (wS (wS (wS aD))))) = true := beq_iff_eq.mpr c9
   have fP : (((rd_T151 l0 aA).f2.f2) != (wS (wS (wS (wS aD))))) = false := bne_eq_false_iff_eq.mpr c9
   clear c9
   by_cases eB : ((rd_T151 l0 aA).f2.f3) = (wS (wS (wS (wS (wS aD)))))
   case neg =>
    rw [if_neg eB] at H
    have eW : (((rd_T151 l0 aA).f2.f3) == (wS (wS (wS (wS (wS aD)))))) = false := beq_eq_false_iff_ne.mpr eB
    have eX : (((rd_T151 l0 aA).f2.f3) != (wS (wS (wS (wS (wS aD)))))) = true := bne_iff_ne.mpr eB
    obtain rfl := Option.some.inj H
    have aE : 0 ≤ (aA : Int) := dT
    have aG : aA < (l0.length : Int) := dT
    obtain ⟨aC, bA, bJ, bK, bL, bM, bN, bO, bP, bQ⟩ := at_T151 aH.out aA aE aG
    cases bA
    replace aE := eq_true aE
    replace aG := eq_true aG
    have aI : 0 ≤ (aA : Int) := dT
    have aJ : aA < (l0.length : Int) := dT
    obtain ⟨aV, bG, bU, bV, bW, bX, bY, bZ, cA, cC⟩ := at_T151 aH.out aA aI aJ
    obtain rfl : aC = aV := (by injection bG)
    replace aI := eq_true aI
    replace aJ := eq_true aJ
    have aK : 0 ≤ (aA : Int) := dT
    have aN : aA < (l0.length : Int) := dT
    obtain ⟨bD, cD, cG, cH, cK, cL, cN, cO, cP, cQ⟩ := at_T151 aH.out aA aK aN
    obtain rfl : aC = bD := (by injection cD)
    replace aK := eq_true aK
    replace aN := eq_true aN
    have aQ : 0 ≤ (aA : Int) := dT
    have aT : aA < (l0.length : Int) := dT
    obtain ⟨bT, cR, cU, cV, cW, cX, cY, dA, dB, dC⟩ := at_T151 aH.out aA aQ aT
    obtain rfl : aC = bT := (by injection cR)
    replace aQ := eq_true aQ
    replace aT := eq_true aT
    have aW : 0 ≤ (aA : Int) := dT
    have aX : aA < (l0.length : Int) := dT
    obtain ⟨cE, dD, dG, dH, dI, dJ, dK, dL, dM, dN⟩ := at_T151 aH.out aA aW aX
    obtain rfl : aC = cE := (by injection dD)
    replace aW := eq_true aW
    replace aX := eq_true aX
    have bH : 0 ≤ (aA : Int) := dT
    have bI : aA < (l0.length : Int) := dT
    obtain ⟨dE, dO, dS, dU, dV, dW, dX, dY, dZ, eA⟩ := at_T151 aH.out aA bH bI
    obtain rfl : aC = dE := (by injection dO)
    replace bH := eq_true bH
    replace bI := eq_true bI
    go_wp2
    go_ret
    exact ⟨by first | rfl | (simp; done) | (simp [*]; done), by repeat (first | exact Drawn0.refl _ | apply Drawn0.step)⟩
   rw [if_pos eB] at H
   have eW : (((rd_T151 l0 aA).f2.f3) == (wS (wS (wS (wS (wS aD)))))) = true := beq_iff_eq.mpr eB
   have eX : (((rd_T151 l0 aA).f2.f3) != (wS (wS (wS (wS (wS aD)))))) = false := bne_eq_false_iff_eq.mpr eB
   clear eB
   by_cases eC : ((rd_T151 l0 aA).f3) = (wS (wS (wS (wS (wS (wS aD))))))
   case neg =>
    rw [if_neg eC] at H
    have eY : (((rd_T151 l0 aA).f3) == (wS (wS (wS (wS (wS (wS aD))))))) = false := beq_eq_false_iff_ne.mpr eC
    have eZ : (((rd_T151 l0 aA).f3) != (wS (wS (wS (wS (wS (wS aD))))))) = true := bne_iff_ne.mpr eC
    obtain rfl := Option.some.inj H
    have aE : 0 ≤ (aA : Int) := dT
    have aG : aA < (l0.length : Int) := dT
    obtain ⟨aC, bA, bJ, bK, bL, bM, bN, bO, bP, bQ⟩ := at_T151 aH.out aA aE aG
    cases bA
    replace aE := eq_true aE
    replace aG := eq_true aG
    have aI : 0 ≤ (aA : Int) := dT
    have aJ : aA < (l0.length : Int) := dT
    obtain ⟨aV, bG, bU, bV, bW, bX, bY, bZ, cA, cC⟩ := at_T151 aH.out aA aI aJ
    obtain rfl : aC = aV := (by injection bG)
    replace aI := eq_true aI
    replace aJ := eq_true aJ
    have aK : 0 ≤ (aA : Int) := dT
    have aN : aA < (l0.length : Int) := dT
    obtain ⟨bD, cD, cG, cH, cK, cL, cN, cO, cP, cQ⟩ := at_T151 aH.out aA aK aN
    obtain rfl : aC = bD := (by injection cD)
    replace aK := eq_true aK
    replace aN := eq_true aN
    have aQ : 0 ≤ (aA : Int) := dT
    have aT : aA < (l0.length : Int) := dT
    obtain ⟨bT, cR, cU, cV, cW, cX, cY, dA, dB, dC⟩ := at_T151 aH.out aA aQ aT
    obtain rfl : aC = bT := (by injection cR)
    replace aQ := eq_true aQ
    replace aT := eq_true aT
    have aW : 0 ≤ (aA : Int) := dT
    have aX : aA < (l0.length : Int) := dT
    obtain ⟨cE, dD, dG, dH, dI, dJ, dK, dL, dM, dN⟩ := at_T151 aH.out aA aW aX
    obtain rfl : aC = cE := (by injection dD)
    replace aW := eq_true aW
    replace aX := eq_true aX
    have bH : 0 ≤ (aA : Int) := dT
    have bI : aA < (l0.length : Int) := dT
    obtain ⟨dE, dO, dS, dU, dV, dW, dX, dY, dZ, eA⟩ := at_T151 aH.out aA bH bI
    obtain rfl : aC = dE := (by injection dO)
    replace bH := eq_true bH
    replace bI := eq_true bI
    have cS : 0 ≤ (aA : Int) := dT
    have cT : aA < (l0.length : Int) := dT
    obtain ⟨dR, eD, eE, eF, eG, eH, eI, eJ, eK, eL⟩ := at_T151 aH.out aA cS cT
    obtain rfl : aC = dR := (by injection eD)
    replace cS := eq_true cS
    replace cT := eq_true cT
    go_wp2
    go_ret
    exact ⟨by first | rfl | (simp; done) | (simp [*]; done), by repeat (first | exact Drawn0.refl _ | apply Drawn0.step)⟩
   rw [if_pos eC] at H
   have eY : (((rd_T151 l0 aA).f3) == (wS (wS (wS (wS (wS (wS aD))))))) = true := beq_iff_eq.mpr eC
   have eZ : (((rd_T151 l0 aA).f3) != (wS (wS (wS (wS (wS (wS aD))))))) = false := bne_eq_false_iff_eq.mpr eC
   clear eC
   by_cases dF : (((rd_T151 l0 aA).f4) != ((Int.tmod (wS (wS (wS (wS (wS (wS (wS aD))))))) 3) == 0)) = true
   case pos =>
    rw [if_pos dF] at H
    have fA : (((rd_T151 l0 aA).f4) != ((Int.tmod (wS (wS (wS (wS (wS (wS (wS aD))))))) 3) == 0)) = true := dF
    (try (have fB : decide (((rd_T151 l0 aA).f4) = ((Int.tmod (wS (wS (wS (wS (wS (wS (wS aD))))))) 3) == 0)) = false := by simpa using dF))
    (try (have fC : (((rd_T151 l0 aA).f4) == ((Int.tmod (wS (wS (wS (wS (wS (wS (wS aD))))))) 3) == 0)) = false := by simpa using dF))
    (try (have fQ : ¬ (((rd_T151 l0 aA).f4) = ((Int.tmod (wS (wS (wS (wS (wS (wS (wS aD))))))) 3) == 0)) := by simpa using dF))
    clear dF
    obtain rfl := Option.some.inj H
    have aE : 0 ≤ (aA : Int) := dT
    have aG : aA < (l0.length : Int) := dT
    obtain ⟨aC, bA, bJ, bK, bL, bM, bN, bO, bP, bQ⟩ := at_T151 aH.out aA aE aG
    cases bA
    replace aE := eq_true aE
    replace aG := eq_true aG
    have aI : 0 ≤ (aA : Int) := dT
    have aJ : aA < (l0.length : Int) := dT
    obtain ⟨aV, bG, bU, bV, bW, bX, bY, bZ, cA, cC⟩ := at_T151 aH.out aA aI aJ
    obtain rfl : aC = aV := (by injection bG)
    replace aI := eq_true aI
    replace aJ := eq_true aJ
    have aK : 0 ≤ (aA : Int) := dT
    have aN : aA < (l0.length : Int) := dT
    obtain ⟨bD, cD, cG, cH, cK, cL, cN, cO, cP, cQ⟩ := at_T151 aH.out aA aK aN
    obtain rfl : aC = bD := (by injection cD)
    replace aK := eq_true aK
    replace aN := eq_true aN
    have aQ : 0 ≤ (aA : Int) := dT
    have aT : aA < (l0.length : Int) := dT
    obtain ⟨bT, cR, cU, cV, cW, cX, cY, dA, dB, dC⟩ := at_T151 aH.out aA aQ aT
    obtain rfl : aC = bT := (by injection cR)
    replace aQ := eq_true aQ
    replace aT := eq_true aT
    have aW : 0 ≤ (aA : Int) := dT
    have aX : aA < (l0.length : Int) := dT
    obtain ⟨cE, dD, dG, dH, dI, dJ, dK, dL, dM, dN⟩ := at_T151 aH.out aA aW aX
    obtain rfl : aC = cE := (by injection dD)
    replace aW := eq_true aW
    replace aX := eq_true aX
    have bH : 0 ≤ (aA : Int) := dT
    have bI : aA < (l0.length : Int) := dT
    obtain ⟨dE, dO, dS, dU, dV, dW, dX, dY, dZ, eA⟩ := at_T151 aH.out aA bH bI
    obtain rfl : aC = dE := (by injection dO)
    replace bH := eq_true bH
    replace bI := eq_true bI
    have cS : 0 ≤ (aA : Int) := dT
    have cT : aA < (l0.length : Int) := dT
    obtain ⟨dR, eD, eE, eF, eG, eH, eI, eJ, eK, eL⟩ := at_T151 aH.out aA cS cT
    obtain rfl : aC = dR := (by injection eD)
    replace cS := eq_true cS
    replace cT := eq_true cT
    have dP : 0 ≤ (aA : Int) := dT
    have dQ : aA < (l0.length : Int) := dT
    obtain ⟨eM, eN, eO, eP, eQ, eR, eS, eT, eU, eV⟩ := at_T151 aH.out aA dP dQ
    obtain rfl : aC = eM := (by injection eN)
    replace dP := eq_true dP
    replace dQ := eq_true dQ
    go_wp2
    go_ret
    exact ⟨by first | rfl | (simp; done) | (simp [*]; done), by repeat (first | exact Drawn0.refl _ | apply Drawn0.step)⟩
   rw [if_neg dF] at H
   have fA : (((rd_T151 l0 aA).f4) != ((Int.tmod (wS (wS (wS (wS (wS (wS (wS aD))))))) 3) == 0)) = false := by simpa using dF
   (try (have fB : decide (((rd_T151 l0 aA).f4) = ((Int.tmod (wS (wS (wS (wS (wS (wS (wS aD))))))) 3) == 0)) = true := by simpa using dF))
   (try (have fC : (((rd_T151 l0 aA).f4) == ((Int.tmod (wS (wS (wS (wS (wS (wS (wS aD))))))) 3) == 0)) = true := by simpa using dF))
   clear dF
   have H' := aM H
   clear H
   have aE : 0 ≤ (aA : Int) := dT
   have aG : aA < (l0.length : Int) := dT
   obtain ⟨aC, bA, bJ, bK, bL, bM, bN, bO, bP, bQ⟩ := at_T151 aH.out aA aE aG
   cases bA
   replace aE := eq_true aE
   replace aG := eq_true aG
   have aI : 0 ≤ (aA : Int) := dT
   have aJ : aA < (l0.length : Int) := dT
   obtain ⟨aV, bG, bU, bV, bW, bX, bY, bZ, cA, cC⟩ := at_T151 aH.out aA aI aJ
   obtain rfl : aC = aV := (by injection bG)
   replace aI := eq_true aI
   replace aJ := eq_true aJ
   have aK : 0 ≤ (aA : Int) := dT
   have aN : aA < (l0.length : Int) := dT
   obtain ⟨bD, cD, cG, cH, cK, cL, cN, cO, cP, cQ⟩ := at_T151 aH.out aA aK aN
   obtain rfl : aC = bD := (by injection cD)
   replace aK := eq_true aK
   replace aN := eq_true aN
   have aQ : 0 ≤ (aA : Int) := dT
   have aT : aA < (l0.length : Int) := dT
   obtain ⟨bT, cR, cU, cV, cW, cX, cY, dA, dB, dC⟩ := at_T151 aH.out aA aQ aT
   obtain rfl : aC = bT := (by injection cR)
   replace aQ := eq_true aQ
   replace aT := eq_true aT
   have aW : 0 ≤ (aA : Int) := dT
   have aX : aA < (l0.length : Int) := dT
   obtain ⟨cE, dD, dG, dH, dI, dJ, dK, dL, dM, dN⟩ := at_T151 aH.out aA aW aX
   obtain rfl : aC = cE := (by injection dD)
   replace aW := eq_true aW
   replace aX := eq_true aX
   have bH : 0 ≤ (aA : Int) := dT
   have bI : aA < (l0.length : Int) := dT
   obtain ⟨dE, dO, dS, dU, dV, dW, dX, dY, dZ, eA⟩ := at_T151 aH.out aA bH bI
   obtain rfl : aC = dE := (by injection dO)
   replace bH := eq_true bH
   replace bI := eq_true bI
   have cS : 0 ≤ (aA : Int) := dT
   have cT : aA < (l0.length : Int) := dT
   obtain ⟨dR, eD, eE, eF, eG, eH, eI, eJ, eK, eL⟩ := at_T151 aH.out aA cS cT
   obtain rfl : aC = dR := (by injection eD)
   replace cS := eq_true cS
   replace cT := eq_true cT
   have dP : 0 ≤ (aA : Int) := dT
   have dQ : aA < (l0.length : Int) := dT
   obtain ⟨eM, eN, eO, eP, eQ, eR, eS, eT, eU, eV⟩ := at_T151 aH.out aA dP dQ
   obtain rfl : aC = eM := (by injection eN)
   replace dP := eq_true dP
   replace dQ := eq_true dQ
   go_wp2
   go_roundg k1
   case measure => have := fD.out; omega
   case rel => exact ⟨(wS (wS (wS (wS (wS (wS (wS (wS aD)))))))), (wS aA), xE, xE, H', ⟨by have := fD.out; omega⟩, by repeat (first | exact Drawn0.refl _ | apply Drawn0.step)⟩

-- NOT PRINTED: function 10 (Z2)

end Go.Proofs.Ythmijfekdeagpaa.PFnExactReact
