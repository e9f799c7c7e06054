/- A part of the proof of laws.FnExactReact. No condition beyond what its theorems say. -/
import Derived.Test.YthmijfekdeagpaaVFnExactReactPx0
namespace Go.Proofs.Ythmijfekdeagpaa.PFnExactReact
open Go.RowKit Go.Proofs.YthmijfekdeagpaaW.PrintWords Go.Proofs.YthmijfekdeagpaaW.PrintLast Go.Proofs.YthmijfekdeagpaaW.PrintMore
set_option linter.unusedVariables false
set_option linter.unusedSimpArgs false

def Z31.l0 : Nat → List (S79) → Int → Int → Option (Int)
 | 0, _, _, _ => none
 | k + 1, x0, x1, x5 => if x5 < (x0.length : Int) then (if 0 ≤ x5 then (if (((rd_T79 x0 x5).f0) != ((Int.tmod x1 3) == 0)) = true then (some (-1)) else (if (((rd_T79 x0 x5).f1) != ((Int.tmod (wrap64 (x1 + 1)) 3) == 0)) = true then (some (-1)) else (if ((rd_T79 x0 x5).f2.f0) = (wrap64 ((wrap64 (x1 + 1)) + 1)) then (if ((rd_T79 x0 x5).f2.f1) = (wrap64 ((wrap64 ((wrap64 (x1 + 1)) + 1)) + 1)) then (if ((rd_T79 x0 x5).f2.f2) = (wrap64 ((wrap64 ((wrap64 ((wrap64 (x1 + 1)) + 1)) + 1)) + 1)) then (if ((rd_T79 x0 x5).f2.f3) = (wrap64 ((wrap64 ((wrap64 ((wrap64 ((wrap64 (x1 + 1)) + 1)) + 1)) + 1)) + 1)) then (if ((rd_T79 x0 x5).f3) = (wrap64 ((wrap64 ((wrap64 ((wrap64 ((wrap64 ((wrap64 (x1 + 1)) + 1)) + 1)) + 1)) + 1)) + 1)) then (if ((rd_T79 x0 x5).f4) = (wrap64 ((wrap64 ((wrap64 ((wrap64 ((wrap64 ((wrap64 ((wrap64 (x1 + 1)) + 1)) + 1)) + 1)) + 1)) + 1)) + 1)) then (if ((rd_T79 x0 x5).f5) = (wrap64 ((wrap64 ((wrap64 ((wrap64 ((wrap64 ((wrap64 ((wrap64 ((wrap64 (x1 + 1)) + 1)) + 1)) + 1)) + 1)) + 1)) + 1)) + 1)) then (if ((rd_T79 x0 x5).f6) = (wrap64 ((wrap64 ((wrap64 ((wrap64 ((wrap64 ((wrap64 ((wrap64 ((wrap64 ((wrap64 (x1 + 1)) + 1)) + 1)) + 1)) + 1)) + 1)) + 1)) + 1)) + 1)) then (if (((rd_T79 x0 x5).f7) != ((Int.tmod (wrap64 ((wrap64 ((wrap64 ((wrap64 ((wrap64 ((wrap64 ((wrap64 ((wrap64 ((wrap64 ((wrap64 (x1 + 1)) + 1)) + 1)) + 1)) + 1)) + 1)) + 1)) + 1)) + 1)) + 1)) 3) == 0)) = true then (some (-1)) else (Z31.l0 k x0 (wrap64 ((wrap64 ((wrap64 ((wrap64 ((wrap64 ((wrap64 ((wrap64 ((wrap64 ((wrap64 ((wrap64 ((wrap64 (x1 + 1)) + 1)) + 1)) + 1)) + 1)) + 1)) + 1)) + 1)) + 1)) + 1)) + 1)) (wrap64 (x5 + 1)))) else (some (-1))) else (some (-1))) else (some (-1))) else (some (-1))) else (some (-1))) else (some (-1))) else (some (-1))) else (some (-1))))) else (none)) else (some x1)
def Z31.f (k : Nat) (l0 : List (S79)) (a1 : Int) : Option (Int) := Z31.l0 k l0 a1 0
theorem Z31.mono_l : ∀ k, (∀ y0 y1 y2, LeO (Z31.l0 k y0 y1 y2) (Z31.l0 (k + 1) y0 y1 y2))
 | 0 => fun _ _ _ r h => by simp [Z31.l0] at h
 | k + 1 => by
  have ih0 := Z31.mono_l k
  ·intro y0 y1 y2
   unfold Z31.l0
   repeat' first|(with_reducible first|apply ih0|exact lR _|exact lN _|refine lI ?_ ?_|refine lB ?_ fun _ => ?_)|exact lN _|refine lI ?_ ?_|refine lB ?_ fun _ => ?_
theorem Z31.mono : ∀ a0 a1 k, LeO (Z31.f k a0 a1) (Z31.f (k + 1) a0 a1) := by
 intro a0 a1 k
 have ih0 := Z31.mono_l k
 unfold Z31.f
 repeat' first|(with_reducible first|apply ih0|exact lR _|exact lN _|refine lI ?_ ?_|refine lB ?_ fun _ => ?_)|exact lN _|refine lI ?_ ?_|refine lB ?_ fun _ => ?_
set_option maxHeartbeats 60000000 in
set_option maxRecDepth 100000 in
theorem Z31.calls (k : Nat) (A0 : Option Addr) (c0 : Nat) (l0 : List (S79)) (a1 r : Int) (w : World) (hr0 : Kd.C k79 w A0 l0.length l0) (hc0 : l0.length ≤ c0) (h : Z31.f k l0 a1 = some r) :
  Calls Try.prog 75 #[.slice A0 l0.length c0, a1] w fun e w' => e = .returned (.int .i64 r) ∧ Drawn0 w w' := by
 have aE := aM hr0
 have jW := aM hc0
 clear hr0 hc0
 have H : (Z31.l0 k l0 a1 0) = some r := h
 clear h
 have H' := aM H
 clear H
 go_enter Try.func75, Try.ntmps75
 go_wp2
 go_loopg [1, 5] k (fun kq v1 v5 w' => ∃ (aD : Int) (aA : Int), v1 = .int .i64 aD ∧ v5 = .int .i64 aA ∧ Aside0 (Z31.l0 kq l0 aD aA = some r) ∧ Aside0 (kq ≤ k) ∧ Drawn0 w w')
 case atStart => exact ⟨(a1), (0), xE, xE, H', ⟨Nat.le_refl _⟩, by repeat (first | exact Drawn0.refl _ | apply Drawn0.step)⟩
 case round =>
  clear H'
  try clear p2
  obtain ⟨aD, aA, rfl, rfl, HA, jE, ⟨m1, rfl⟩⟩ := hrel
  cases gk with
  | zero => exact absurd HA.out (by simp [Z31.l0])
  | succ k1 =>
   have H := HA.out
   clear HA
   simp only [Z31.l0] at H
   by_cases c3 : aA < (l0.length : Int)
   case neg =>
    rw [if_neg c3] at H
    have jF := decide_eq_false c3
    clear c3
    obtain rfl := Option.some.inj H
    go_wp2
    go_ret
    exact ⟨by first | rfl | (simp; done) | (simp [*]; done), by repeat (first | exact Drawn0.refl _ | apply Drawn0.step)⟩
   rw [if_pos c3] at H
   have jF := decide_eq_true c3
   clear c3
   obtain ⟨jT, H⟩ := gI H
   by_cases c5 : (((rd_T79 l0 aA).f0) != ((Int.tmod aD 3) == 0)) = true
   case pos =>
    rw [if_pos c5] at H
    have jG : (((rd_T79 l0 aA).f0) != ((Int.tmod aD 3) == 0)) = true := c5
    (try (have jH : decide (((rd_T79 l0 aA).f0) = ((Int.tmod aD 3) == 0)) = false := by simpa using c5))
    (try (have jI : (((rd_T79 l0 aA).f0) == ((Int.tmod aD 3) == 0)) = false := by simpa using c5))
    (try (have jU : ¬ (((rd_T79 l0 aA).f0) = ((Int.tmod aD 3) == 0)) := by simpa using c5))
    clear c5
    obtain rfl := Option.some.inj H
    have aG : 0 ≤ (aA : Int) := dT
    have aH : aA < (l0.length : Int) := dT
    obtain ⟨aC, bH, bO, bP, bQ, bT, bU, bV, bW, bX, bY, bZ, bI⟩ := at_T79 aE.out aA aG aH
    cases bH
    replace aG := eq_true aG
    replace aH := eq_true aH
    go_wp2
    go_ret
    exact ⟨by first | rfl | (simp; done) | (simp [*]; done), by repeat (first | exact Drawn0.refl _ | apply Drawn0.step)⟩
   rw [if_neg c5] at H
   have jG : (((rd_T79 l0 aA).f0) != ((Int.tmod aD 3) == 0)) = false := by simpa using c5
   (try (have jH : decide (((rd_T79 l0 aA).f0) = ((Int.tmod aD 3) == 0)) = true := by simpa using c5))
   (try (have jI : (((rd_T79 l0 aA).f0) == ((Int.tmod aD 3) == 0)) = true := by simpa using c5))
   clear c5
   by_cases c6 : (((rd_T79 l0 aA).f1) != ((Int.tmod (wS aD) 3) == 0)) = true
   case pos =>
    rw [if_pos c6] at H
    have jJ : (((rd_T79 l0 aA).f1) != ((Int.tmod (wS aD) 3) == 0)) = true := c6
    (try (have jK : decide (((rd_T79 l0 aA).f1) = ((Int.tmod (wS aD) 3) == 0)) = false := by simpa using c6))
    (try (have jL : (((rd_T79 l0 aA).f1) == ((Int.tmod (wS aD) 3) == 0)) = false := by simpa using c6))
    (try (have jV : ¬ (((rd_T79 l0 aA).f1) = ((Int.tmod (wS aD) 3) == 0)) := by simpa using c6))
    clear c6
    obtain rfl := Option.some.inj H
    have aG : 0 ≤ (aA : Int) := dT
    have aH : aA < (l0.length : Int) := dT
    obtain ⟨aC, bH, bO, bP, bQ, bT, bU, bV, bW, bX, bY, bZ, bI⟩ := at_T79 aE.out aA aG aH
    cases bH
    replace aG := eq_true aG
    replace aH := eq_true aH
    have aI : 0 ≤ (aA : Int) := dT
    have aJ : aA < (l0.length : Int) := dT
    obtain ⟨bD, bM, cH, cK, cL, cN, cO, cP, cQ, cR, cS, cT, bN⟩ := at_T79 aE.out aA aI aJ
    obtain rfl : aC = bD := (by injection bM)
    replace aI := eq_true aI
    replace aJ := eq_true aJ
    go_wp2
    go_ret
    exact ⟨by first | rfl | (simp; done) | (simp [*]; done), by repeat (first | exact Drawn0.refl _ | apply Drawn0.step)⟩
   rw [if_neg c6] at H
   have jJ : (((rd_T79 l0 aA).f1) != ((Int.tmod (wS aD) 3) == 0)) = false := by simpa using c6
   (try (have jK : decide (((rd_T79 l0 aA).f1) = ((Int.tmod (wS aD) 3) == 0)) = true := by simpa using c6))
   (try (have jL : (((rd_T79 l0 aA).f1) == ((Int.tmod (wS aD) 3) == 0)) = true := by simpa using c6))
   clear c6
   by_cases c7 : ((rd_T79 l0 aA).f2.f0) = (wS (wS aD))
   case neg =>
    rw [if_neg c7] at H
    have jM : (((rd_T79 l0 aA).f2.f0) == (wS (wS aD))) = false := beq_eq_false_iff_ne.mpr c7
    have jN : (((rd_T79 l0 aA).f2.f0) != (wS (wS aD))) = true := bne_iff_ne.mpr c7
    obtain rfl := Option.some.inj H
    have aG : 0 ≤ (aA : Int) := dT
    have aH : aA < (l0.length : Int) := dT
    obtain ⟨aC, bH, bO, bP, bQ, bT, bU, bV, bW, bX, bY, bZ, bI⟩ := at_T79 aE.out aA aG aH
    cases bH
    replace aG := eq_true aG
    replace aH := eq_true aH
    have aI : 0 ≤ (aA : Int) := dT
    have aJ : aA < (l0.length : Int) := dT
    obtain ⟨bD, bM, cH, cK, cL, cN, cO, cP, cQ, cR, cS, cT, bN⟩ := at_T79 aE.out aA aI aJ
    obtain rfl : aC = bD := (by injection bM)
    replace aI := eq_true aI
    replace aJ := eq_true aJ
    have aK : 0 ≤ (aA : Int) := dT
    have aN : aA < (l0.length : Int) := dT
    obtain ⟨bG, cA, cW, cX, cY, dA, dB, dC, dD, dE, dF, dG, cC⟩ := at_T79 aE.out aA aK aN
    obtain rfl : aC = bG := (by injection cA)
    replace aK := eq_true aK
    replace aN := eq_true aN
    go_wp2
    go_ret
    exact ⟨by first | rfl | (simp; done) | (simp [*]; done), by repeat (first | exact Drawn0.refl _ | apply Drawn0.step)⟩
   rw [if_pos c7] at H
   have jM : (((rd_T79 l0 aA).f2.f0) == (wS (wS aD))) = true := beq_iff_eq.mpr c7
   have jN : (((rd_T79 l0 aA).f2.f0) != (wS (wS aD))) = false := bne_eq_false_iff_eq.mpr c7
   clear c7
   by_cases c8 : ((rd_T79 l0 aA).f2.f1) = (wS (wS (wS aD)))
   case neg =>
    rw [if_neg c8] at H
    have jO : (((rd_T79 l0 aA).f2.f1) == (wS (wS (wS aD)))) = false := beq_eq_false_iff_ne.mpr c8
    have jP : (((rd_T79 l0 aA).f2.f1) != (wS (wS (wS aD)))) = true := bne_iff_ne.mpr c8
    obtain rfl := Option.some.inj H
    have aG : 0 ≤ (aA : Int) := dT
    have aH : aA < (l0.length : Int) := dT
    obtain ⟨aC, bH, bO, bP, bQ, bT, bU, bV, bW, bX, bY, bZ, bI⟩ := at_T79 aE.out aA aG aH
    cases bH
    replace aG := eq_true aG
    replace aH := eq_true aH
    have aI : 0 ≤ (aA : Int) := dT
    have aJ : aA < (l0.length : Int) := dT
    obtain ⟨bD, bM, cH, cK, cL, cN, cO, cP, cQ, cR, cS, cT, bN⟩ := at_T79 aE.out aA aI aJ
    obtain rfl : aC = bD := (by injection bM)
    replace aI := eq_true aI
    replace aJ := eq_true aJ
    have aK : 0 ≤ (aA : Int) := dT
    have aN : aA < (l0.length : Int) := dT
    obtain ⟨bG, cA, cW, cX, cY, dA, dB, dC, dD, dE, dF, dG, cC⟩ := at_T79 aE.out aA aK aN
    obtain rfl : aC = bG := (by injection cA)
    replace aK := eq_true aK
    replace aN := eq_true aN
    have aQ : 0 ≤ (aA : Int) := dT
    have aT : aA < (l0.length : Int) := dT
    obtain ⟨bL, cU, dM, dN, dO, dP, dQ, dR, dS, dU, dV, dW, cV⟩ := at_T79 aE.out aA aQ aT
    obtain rfl : aC = bL := (by injection cU)
    replace aQ := eq_true aQ
    replace aT := eq_true aT
    go_wp2
    go_ret
    exact ⟨by first | rfl | (simp; done) | (simp [*]; done), by repeat (first | exact Drawn0.refl _ | apply Drawn0.step)⟩
   rw [if_pos c8] at H
   have jO : (((rd_T79 l0 aA).f2.f1) == (wS (wS (wS aD)))) = true := beq_iff_eq.mpr c8
   have jP : (((rd_T79 l0 aA).f2.f1) != (wS (wS (wS aD)))) = false := bne_eq_false_iff_eq.mpr c8
   clear c8
   by_cases c9 : ((rd_T79 l0 aA).f2.f2) = (wS (wS (wS (wS aD))))
   case neg =>
    rw [if_neg c9] at H
    have jQ : (((rd_T79 l0 aA).f2.f2) == (wS (wS (wS (wS aD))))) = false := beq_eq_false_iff_ne.mpr c9
    have jR : (((rd_T79 l0 aA).f2.f2) != (wS (wS (wS (wS aD))))) = true := bne_iff_ne.mpr c9
    obtain rfl := Option.some.inj H
    have aG : 0 ≤ (aA : Int) := dT
    have aH : aA < (l0.length : Int) := dT
    obtain ⟨aC, bH, bO, bP, bQ, bT, bU, bV, bW, bX, bY, bZ, bI⟩ := at_T79 aE.out aA aG aH
    cases bH
    replace aG := eq_true aG
    replace aH := eq_true aH
    have aI : 0 ≤ (aA : Int) := dT
    have aJ : aA < (l0.length : Int) := dT
    obtain ⟨bD, bM, cH, cK, cL, cN, cO, cP, cQ, cR, cS, cT, bN⟩ := at_T79 aE.out aA aI aJ
    obtain rfl : aC = bD := (by injection bM)
    replace aI := eq_true aI
    replace aJ := eq_true aJ
    have aK : 0 ≤ (aA : Int) := dT
    have aN : aA < (l0.length : Int) := dT
    obtain ⟨bG, cA, cW, cX, cY, dA, dB, dC, dD, dE, dF, dG, cC⟩ := at_T79 aE.out aA aK aN
    obtain rfl : aC = bG := (by injection cA)
    replace aK := eq_true aK
    replace aN := eq_true aN
    have aQ : 0 ≤ (aA : Int) := dT
    have aT : aA < (l0.length : Int) := dT
    obtain ⟨bL, cU, dM, dN, dO, dP, dQ, dR, dS, dU, dV, dW, cV⟩ := at_T79 aE.out aA aQ aT
    obtain rfl : aC = bL := (by injection cU)
    replace aQ := eq_true aQ
    replace aT := eq_true aT
    have aV : 0 ≤ (aA : Int) := dT
    have aW : aA < (l0.length : Int) := dT
    obtain ⟨cD, dI, dY, dZ, eA, eB, eC, eD, eE, eF, eG, eH, dJ⟩ := at_T79 aE.out aA aV aW
    obtain rfl : aC = cD := (by injection dI)
    replace aV := eq_true aV
    replace aW := eq_true aW
    go_wp2
    go_ret
    exact ⟨by first | rfl | (simp; done) | (simp [*]; done), by repeat (first | exact Drawn0.refl _ | apply Drawn0.step)⟩
   rw [if_pos c9] at H
   have jQ : (((rd_T79 l0 aA).f2.f2) == (wS (wS (wS (wS aD))))) = true := beq_iff_eq.mpr c9
   have jR : (((rd_T79 l0 aA).f2.f2) != (wS (wS (wS (wS aD))))) = false := bne_eq_false_iff_eq.mpr c9
   clear c9
   by_cases gV : ((rd_T79 l0 aA).f2.f3) = (wS (wS (wS (wS (wS aD)))))
   case neg =>
    rw [if_neg gV] at H
    have iR : (((rd_T79 l0 aA).f2.f3) == (wS (wS (wS (wS (wS aD)))))) = false := beq_eq_false_iff_ne.mpr gV
    have iS : (((rd_T79 l0 aA).f2.f3) != (wS (wS (wS (wS (wS aD)))))) = true := bne_iff_ne.mpr gV
    obtain rfl := Option.some.inj H
    have aG : 0 ≤ (aA : Int) := dT
    have aH : aA < (l0.length : Int) := dT
    obtain ⟨aC, bH, bO, bP, bQ, bT, bU, bV, bW, bX, bY, bZ, bI⟩ := at_T79 aE.out aA aG aH
    cases bH
    replace aG := eq_true aG
    replace aH := eq_true aH
    have aI : 0 ≤ (aA : Int) := dT
    have aJ : aA < (l0.length : Int) := dT
    obtain ⟨bD, bM, cH, cK, cL, cN, cO, cP, cQ, cR, cS, cT, bN⟩ := at_T79 aE.out aA aI aJ
    obtain rfl : aC = bD := (by injection bM)
    replace aI := eq_true aI
    replace aJ := eq_true aJ
    have aK : 0 ≤ (aA : Int) := dT
    have aN : aA < (l0.length : Int) := dT
    obtain ⟨bG, cA, cW, cX, cY, dA, dB, dC, dD, dE, dF, dG, cC⟩ := at_T79 aE.out aA aK aN
    obtain rfl : aC = bG := (by injection cA)
    replace aK := eq_true aK
    replace aN := eq_true aN
    have aQ : 0 ≤ (aA : Int) := dT
    have aT : aA < (l0.length : Int) := dT
    obtain ⟨bL, cU, dM, dN, dO, dP, dQ, dR, dS, dU, dV, dW, cV⟩ := at_T79 aE.out aA aQ aT
    obtain rfl : aC = bL := (by injection cU)
    replace aQ := eq_true aQ
    replace aT := eq_true aT
    have aV : 0 ≤ (aA : Int) := dT
    have aW : aA < (l0.length : Int) := dT
    obtain ⟨cD, dI, dY, dZ, eA, eB, eC, eD, eE, eF, eG, eH, dJ⟩ := at_T79 aE.out aA aV aW
    obtain rfl : aC = cD := (by injection dI)
    replace aV := eq_true aV
    replace aW := eq_true aW
    have aX : 0 ≤ (aA : Int) := dT
    have bA : aA < (l0.length : Int) := dT
    obtain ⟨dH, eI, eL, eM, eN, eO, eP, eQ, eR, eS, eT, eU, eJ⟩ := at_T79 aE.out aA aX bA
    obtain rfl : aC = dH := (by injection eI)
    replace aX := eq_true aX
    replace bA := eq_true bA
    go_wp2
    go_ret
    exact ⟨by first | rfl | (simp; done) | (simp [*]; done), by repeat (first | exact Drawn0.refl _ | apply Drawn0.step)⟩
   rw [if_pos gV] at H
   have iR : (((rd_T79 l0 aA).f2.f3) == (wS (wS (wS (wS (wS aD)))))) = true := beq_iff_eq.mpr gV
   have iS : (((rd_T79 l0 aA).f2.f3) != (wS (wS (wS (wS (wS aD)))))) = false := bne_eq_false_iff_eq.mpr gV
   clear gV
   by_cases gW : ((rd_T79 l0 aA).f3) = (wS (wS (wS (wS (wS (wS aD))))))
   case neg =>
    rw [if_neg gW] at H
    have iT : (((rd_T79 l0 aA).f3) == (wS (wS (wS (wS (wS (wS aD))))))) = false := beq_eq_false_iff_ne.mpr gW
    have iU : (((rd_T79 l0 aA).f3) != (wS (wS (wS (wS (wS (wS aD))))))) = true := bne_iff_ne.mpr gW
    obtain rfl := Option.some.inj H
    have aG : 0 ≤ (aA : Int) := dT
    have aH : aA < (l0.length : Int) := dT
    obtain ⟨aC, bH, bO, bP, bQ, bT, bU, bV, bW, bX, bY, bZ, bI⟩ := at_T79 aE.out aA aG aH
    cases bH
    replace aG := eq_true aG
    replace aH := eq_true aH
    have aI : 0 ≤ (aA : Int) := dT
    have aJ : aA < (l0.length : Int) := dT
    obtain ⟨bD, bM, cH, cK, cL, cN, cO, cP, cQ, cR, cS, cT, bN⟩ := at_T79 aE.out aA aI aJ
    obtain rfl : aC = bD := (by injection bM)
    replace aI := eq_true aI
    replace aJ := eq_true aJ
    have aK : 0 ≤ (aA : Int) := dT
    have aN : aA < (l0.length : Int) := dT
    obtain ⟨bG, cA, cW, cX, cY, dA, dB, dC, dD, dE, dF, dG, cC⟩ := at_T79 aE.out aA aK aN
    obtain rfl : aC = bG := (by injection cA)
    replace aK := eq_true aK
    replace aN := eq_true aN
    have aQ : 0 ≤ (aA : Int) := dT
    have aT : aA < (l0.length : Int) := dT
    obtain ⟨bL, cU, dM, dN, dO, dP, dQ, dR, dS, dU, dV, dW, cV⟩ := at_T79 aE.out aA aQ aT
    obtain rfl : aC = bL := (by injection cU)
    replace aQ := eq_true aQ
    replace aT := eq_true aT
    have aV : 0 ≤ (aA : Int) := dT
    have aW : aA < (l0.length : Int) := dT
    obtain ⟨cD, dI, dY, dZ, eA, eB, eC, eD, eE, eF, eG, eH, dJ⟩ := at_T79 aE.out aA aV aW
    obtain rfl : aC = cD := (by injection dI)
    replace aV := eq_true aV
    replace aW := eq_true aW
    have aX : 0 ≤ (aA : Int) := dT
    have bA : aA < (l0.length : Int) := dT
    obtain ⟨dH, eI, eL, eM, eN, eO, eP, eQ, eR, eS, eT, eU, eJ⟩ := at_T79 aE.out aA aX bA
    obtain rfl : aC = dH := (by injection eI)
    replace aX := eq_true aX
    replace bA := eq_true bA
    have bJ : 0 ≤ (aA : Int) := dT
    have bK : aA < (l0.length : Int) := dT
    obtain ⟨dX, eV, eZ, fA, fB, fC, fD, fE, fF, fG, fH, fI, eW⟩ := at_T79 aE.out aA bJ bK
    obtain rfl : aC = dX := (by injection eV)
    replace bJ := eq_true bJ
    replace bK := eq_true bK
    go_wp2
    go_ret
    exact ⟨by first | rfl | (simp; done) | (simp [*]; done), by repeat (first | exact Drawn0.refl _ | apply Drawn0.step)⟩
   rw [if_pos gW] at H
   have iT : (((rd_T79 l0 aA).f3) == (wS (wS (wS (wS (wS (wS aD))))))) = true := beq_iff_eq.mpr gW
   have iU : (((rd_T79 l0 aA).f3) != (wS (wS (wS (wS (wS (wS aD))))))) = false := bne_eq_false_iff_eq.mpr gW
   clear gW
   by_cases gX : ((rd_T79 l0 aA).f4) = (wS (wS (wS (wS (wS (wS (wS aD)))))))
   case neg =>
    rw [if_neg gX] at H
    have iV : (((rd_T79 l0 aA).f4) == (wS (wS (wS (wS (wS (wS (wS aD)))))))) = false := beq_eq_false_iff_ne.mpr gX
    have iW : (((rd_T79 l0 aA).f4) != (wS (wS (wS (wS (wS (wS (wS aD)))))))) = true := bne_iff_ne.mpr gX
    obtain rfl := Option.some.inj H
    have aG : 0 ≤ (aA : Int) := dT
    have aH : aA < (l0.length : Int) := dT
    obtain ⟨aC, bH, bO, bP, bQ, bT, bU, bV, bW, bX, bY, bZ, bI⟩ := at_T79 aE.out aA aG aH
    cases bH
    replace aG := eq_true aG
    replace aH := eq_true aH
    have aI : 0 ≤ (aA : Int) := dT
    have aJ : aA < (l0.length : Int) := dT
    obtain ⟨bD, bM, cH, cK, cL, cN, cO, cP, cQ, cR, cS, cT, bN⟩ := at_T79 aE.out aA aI aJ
    obtain rfl : aC = bD := (by injection bM)
    replace aI := eq_true aI
    replace aJ := eq_true aJ
    have aK : 0 ≤ (aA : Int) := dT
    have aN : aA < (l0.length : Int) := dT
    obtain ⟨bG, cA, cW, cX, cY, dA, dB, dC, dD, dE, dF, dG, cC⟩ := at_T79 aE.out aA aK aN
    obtain rfl : aC = bG := (by injection cA)
    replace aK := eq_true aK
    replace aN := eq_true aN
    have aQ : 0 ≤ (aA : Int) := dT
    have aT : aA < (l0.length : Int) := dT
    obtain ⟨bL, cU, dM, dN, dO, dP, dQ, dR, dS, dU, dV, dW, cV⟩ := at_T79 aE.out aA aQ aT
    obtain rfl : aC = bL := (by injection cU)
    replace aQ := eq_true aQ
    replace aT := eq_true aT
    have aV : 0 ≤ (aA : Int) := dT
    have aW : aA < (l0.length : Int) := dT
    obtain ⟨cD, dI, dY, dZ, eA, eB, eC, eD, eE, eF, eG, eH, dJ⟩ := at_T79 aE.out aA aV aW
    obtain rfl : aC = cD := (by injection dI)
    replace aV := eq_true aV
    replace aW := eq_true aW
    have aX : 0 ≤ (aA : Int) := dT
    have bA : aA < (l0.length : Int) := dT
    obtain ⟨dH, eI, eL, eM, eN, eO, eP, eQ, eR, eS, eT, eU, eJ⟩ := at_T79 aE.out aA aX bA
    obtain rfl : aC = dH := (by injection eI)
    replace aX := eq_true aX
    replace bA := eq_true bA
    have bJ : 0 ≤ (aA : Int) := dT
    have bK : aA < (l0.length : Int) := dT
    obtain ⟨dX, eV, eZ, fA, fB, fC, fD, fE, fF, fG, fH, fI, eW⟩ := at_T79 aE.out aA bJ bK
    obtain rfl : aC = dX := (by injection eV)
    replace bJ := eq_true bJ
    replace bK := eq_true bK
    have cE : 0 ≤ (aA : Int) := dT
    have cG : aA < (l0.length : Int) := dT
    obtain ⟨eK, fK, fO, fP, fQ, fS, fT, fU, fV, fW, fX, fY, fL⟩ := at_T79 aE.out aA cE cG
    obtain rfl : aC = eK := (by injection fK)
    replace cE := eq_true cE
    replace cG := eq_true cG
    go_wp2
    go_ret
    exact ⟨by first | rfl | (simp; done) | (simp [*]; done), by repeat (first | exact Drawn0.refl _ | apply Drawn0.step)⟩
   rw [if_pos gX] at H
   have iV : (((rd_T79 l0 aA).f4) == (wS (wS (wS (wS (wS (wS (wS aD)))))))) = true := beq_iff_eq.mpr gX
   have iW : (((rd_T79 l0 aA).f4) != (wS (wS (wS (wS (wS (wS (wS aD)))))))) = false := bne_eq_false_iff_eq.mpr gX
   clear gX
   by_cases gY : ((rd_T79 l0 aA).f5) = (wS (wS (wS (wS (wS (wS (wS (wS aD))))))))
   case neg =>
    rw [if_neg gY] at H
    have iX : (((rd_T79 l0 aA).f5) == (wS (wS (wS (wS (wS (wS (wS (wS aD))))))))) = false := beq_eq_false_iff_ne.mpr gY
    have iY : (((rd_T79 l0 aA).f5) != (wS (wS (wS (wS (wS (wS (wS (wS aD))))))))) = true := bne_iff_ne.mpr gY
    obtain rfl := Option.some.inj H
    have aG : 0 ≤ (aA : Int) := dT
    have aH : aA < (l0.length : Int) := dT
    obtain ⟨aC, bH, bO, bP, bQ, bT, bU, bV, bW, bX, bY, bZ, bI⟩ := at_T79 aE.out aA aG aH
    cases bH
    replace aG := eq_true aG
    replace aH := eq_true aH
    have aI : 0 ≤ (aA : Int) := dT
    have aJ : aA < (l0.length : Int) := dT
    obtain ⟨bD, bM, cH, cK, cL, cN, cO, cP, cQ, cR, cS, cT, bN⟩ := at_T79 aE.out aA aI aJ
    obtain rfl : aC = bD := (by injection bM)
    replace aI := eq_true aI
    replace aJ := eq_true aJ
    have aK : 0 ≤ (aA : Int) := dT
    have aN : aA < (l0.length : Int) := dT
    obtain ⟨bG, cA, cW, cX, cY, dA, dB, dC, dD, dE, dF, dG, cC⟩ := at_T79 aE.out aA aK aN
    obtain rfl : aC = bG := (by injection cA)
    replace aK := eq_true aK
    replace aN := eq_true aN
    have aQ : 0 ≤ (aA : Int) := dT
    have aT : aA < (l0.length : Int) := dT
    obtain ⟨bL, cU, dM, dN, dO, dP, dQ, dR, dS, dU, dV, dW, cV⟩ := at_T79 aE.out aA aQ aT
    obtain rfl : aC = bL := (by injection cU)
    replace aQ := eq_true aQ
    replace aT := eq_true aT
    have aV : 0 ≤ (aA : Int) := dT
    have aW : aA < (l0.length : Int) := dT
    obtain ⟨cD, dI, dY, dZ, eA, eB, eC, eD, eE, eF, eG, eH, dJ⟩ := at_T79 aE.out aA aV aW
    obtain rfl : aC = cD := (by injection dI)
    replace aV := eq_true aV
    replace aW := eq_true aW
    have aX : 0 ≤ (aA : Int) := dT
    have bA : aA < (l0.length : Int) := dT
    obtain ⟨dH, eI, eL, eM, eN, eO, eP, eQ, eR, eS, eT, eU, eJ⟩ := at_T79 aE.out aA aX bA
    obtain rfl : aC = dH := (by injection eI)
    replace aX := eq_true aX
    replace bA := eq_true bA
    have bJ : 0 ≤ (aA : Int) := dT
    have bK : aA < (l0.length : Int) := dT
    obtain ⟨dX, eV, eZ, fA, fB, fC, fD, fE, fF, fG, fH, fI, eW⟩ := at_T79 aE.out aA bJ bK
    obtain rfl : aC = dX := (by injection eV)
    replace bJ := eq_true bJ
    replace bK := eq_true bK
    have cE : 0 ≤ (aA : Int) := dT
    have cG : aA < (l0.length : Int) := dT
    obtain ⟨eK, fK, fO, fP, fQ, fS, fT, fU, fV, fW, fX, fY, fL⟩ := at_T79 aE.out aA cE cG
    obtain rfl : aC = eK := (by injection fK)
    replace cE := eq_true cE
    replace cG := eq_true cG
    have dK : 0 ≤ (aA : Int) := dT
    have dL : aA < (l0.length : Int) := dT
    obtain ⟨fM, gA, gK, gM, gN, gO, gP, gQ, gR, gS, gT, gU, gB⟩ := at_T79 aE.out aA dK dL
    obtain rfl : aC = fM := (by injection gA)
    replace dK := eq_true dK
    replace dL := eq_true dL
    go_wp2
    go_ret
    exact ⟨by first | rfl | (simp; done) | (simp [*]; done), by repeat (first | exact Drawn0.refl _ | apply Drawn0.step)⟩
   rw [if_pos gY] at H
   have iX : (((rd_T79 l0 aA).f5) == (wS (wS (wS (wS (wS (wS (wS (wS aD))))))))) = true := beq_iff_eq.mpr gY
   have iY : (((rd_T79 l0 aA).f5) != (wS (wS (wS (wS (wS (wS (wS (wS aD))))))))) = false := bne_eq_false_iff_eq.mpr gY
   clear gY
   by_cases gZ : ((rd_T79 l0 aA).f6) = (wS (wS (wS (wS (wS (wS (wS (wS (wS aD)))))))))
   case neg =>
    rw [if_neg gZ] at H
    have iZ : (((rd_T79 l0 aA).f6) == (wS (wS (wS (wS (wS (wS (wS (wS (wS aD)))))))))) = false := beq_eq_false_iff_ne.mpr gZ
    have jA : (((rd_T79 l0 aA).f6) != (wS (wS (wS (wS (wS (wS (wS (wS (wS aD)))))))))) = true := bne_iff_ne.mpr gZ
    obtain rfl := Option.some.inj H
    have aG : 0 ≤ (aA : Int) := dT
    have aH : aA < (l0.length : Int) := dT
    obtain ⟨aC, bH, bO, bP, bQ, bT, bU, bV, bW, bX, bY, bZ, bI⟩ := at_T79 aE.out aA aG aH
    cases bH
    replace aG := eq_true aG
    replace aH := eq_true aH
    have aI : 0 ≤ (aA : Int) := dT
    have aJ : aA < (l0.length : Int) := dT
    obtain ⟨bD, bM, cH, cK, cL, cN, cO, cP, cQ, cR, cS, cT, bN⟩ := at_T79 aE.out aA aI aJ
    obtain rfl : aC = bD := (by injection bM)
    replace aI := eq_true aI
    replace aJ := eq_true aJ
    have aK : 0 ≤ (aA : Int) := dT
    have aN : aA < (l0.length : Int) := dT
    obtain ⟨bG, cA, cW, cX, cY, dA, dB, dC, dD, dE, dF, dG, cC⟩ := at_T79 aE.out aA aK aN
    obtain rfl : aC = bG := (by injection cA)
    replace aK := eq_true aK
    replace aN := eq_true aN
    have aQ : 0 ≤ (aA : Int) := dT
    have aT : aA < (l0.length : Int) := dT
    obtain ⟨bL, cU, dM, dN, dO, dP, dQ, dR, dS, dU, dV, dW, cV⟩ := at_T79 aE.out aA aQ aT
    obtain rfl : aC = bL := (by injection cU)
    replace aQ := eq_true aQ
    replace aT := eq_true aT
    have aV : 0 ≤ (aA : Int) := dT
    have aW : aA < (l0.length : Int) := dT
    obtain ⟨cD, dI, dY, dZ, eA, eB, eC, eD, eE, eF, eG, eH, dJ⟩ := at_T79 aE.out aA aV aW
    obtain rfl : aC = cD := (by injection dI)
    replace aV := eq_true aV
    replace aW := eq_true aW
    have aX : 0 ≤ (aA : Int) := dT
    have bA : aA < (l0.length : Int) := dT
    obtain ⟨dH, eI, eL, eM, eN, eO, eP, eQ, eR, eS, eT, eU, eJ⟩ := at_T79 aE.out aA aX bA
    obtain rfl : aC = dH := (by injection eI)
    replace aX := eq_true aX
    replace bA := eq_true bA
    have bJ : 0 ≤ (aA : Int) := dT
    have bK : aA < (l0.length : Int) := dT
    obtain ⟨dX, eV, eZ, fA, fB, fC, fD, fE, fF, fG, fH, fI, eW⟩ := at_T79 aE.out aA bJ bK
    obtain rfl : aC = dX := (by injection eV)
    replace bJ := eq_true bJ
    replace bK := eq_true bK
    have cE : 0 ≤ (aA : Int) := dT
    have cG : aA < (l0.length : Int) := dT
    obtain ⟨eK, fK, fO, fP, fQ, fS, fT, fU, fV, fW, fX, fY, fL⟩ := at_T79 aE.out aA cE cG
    obtain rfl : aC = eK := (by injection fK)
    replace cE := eq_true cE
    replace cG := eq_true cG
    have dK : 0 ≤ (aA : Int) := dT
    have dL : aA < (l0.length : Int) := dT
    obtain ⟨fM, gA, gK, gM, gN, gO, gP, gQ, gR, gS, gT, gU, gB⟩ := at_T79 aE.out aA dK dL
    obtain rfl : aC = fM := (by injection gA)
    replace dK := eq_true dK
    replace dL := eq_true dL
    have eX : 0 ≤ (aA : Int) := dT
    have eY : aA < (l0.length : Int) := dT
    obtain ⟨gJ, hD, hJ, hO, hU, hX, hY, hZ, iA, iB, iC, iD, hH⟩ := at_T79 aE.out aA eX eY
    obtain rfl : aC = gJ := (by injection hD)
    replace eX := eq_true eX
    replace eY := eq_true eY
    go_wp2
    go_ret
    exact ⟨by first | rfl | (simp; done) | (simp [*]; done), by repeat (first | exact Drawn0.refl _ | apply Drawn0.step)⟩
   rw [if_pos gZ] at H
   have iZ : (((rd_T79 l0 aA).f6) == (wS (wS (wS (wS (wS (wS (wS (wS (wS aD)))))))))) = true := beq_iff_eq.mpr gZ
   have jA : (((rd_T79 l0 aA).f6) != (wS (wS (wS (wS (wS (wS (wS (wS (wS aD)))))))))) = false := bne_eq_false_iff_eq.mpr gZ
   clear gZ
   by_cases fN : (((rd_T79 l0 aA).f7) != ((Int.tmod (wS (wS (wS (wS (wS (wS (wS (wS (wS (wS aD)))))))))) 3) == 0)) = true
   case pos =>
    rw [if_pos fN] at H
    have jB : (((rd_T79 l0 aA).f7) != ((Int.tmod (wS (wS (wS (wS (wS (wS (wS (wS (wS (wS aD)))))))))) 3) == 0)) = true := fN
    (try (have jC : decide (((rd_T79 l0 aA).f7) = ((Int.tmod (wS (wS (wS (wS (wS (wS (wS (wS (wS (wS aD)))))))))) 3) == 0)) = false := by simpa using fN))
    (try (have jD : (((rd_T79 l0 aA).f7) == ((Int.tmod (wS (wS (wS (wS (wS (wS (wS (wS (wS (wS aD)))))))))) 3) == 0)) = false := by simpa using fN))
    (try (have jS : ¬ (((rd_T79 l0 aA).f7) = ((Int.tmod (wS (wS (wS (wS (wS (wS (wS (wS (wS (wS aD)))))))))) 3) == 0)) := by simpa using fN))
    clear fN
    obtain rfl := Option.some.inj H
    have aG : 0 ≤ (aA : Int) := dT
    have aH : aA < (l0.length : Int) := dT
    obtain ⟨aC, bH, bO, bP, bQ, bT, bU, bV, bW, bX, bY, bZ, bI⟩ := at_T79 aE.out aA aG aH
    cases bH
    replace aG := eq_true aG
    replace aH := eq_true aH
    have aI : 0 ≤ (aA : Int) := dT
    have aJ : aA < (l0.length : Int) := dT
    obtain ⟨bD, bM, cH, cK, cL, cN, cO, cP, cQ, cR, cS, cT, bN⟩ := at_T79 aE.out aA aI aJ
    obtain rfl : aC = bD := (by injection bM)
    replace aI := eq_true aI
    replace aJ := eq_true aJ
    have aK : 0 ≤ (aA : Int) := dT
    have aN : aA < (l0.length : Int) := dT
    obtain ⟨bG, cA, cW, cX, cY, dA, dB, dC, dD, dE, dF, dG, cC⟩ := at_T79 aE.out aA aK aN
    obtain rfl : aC = bG := (by injection cA)
    replace aK := eq_true aK
    replace aN := eq_true aN
    have aQ : 0 ≤ (aA : Int) := dT
    have aT : aA < (l0.length : Int) := dT
    obtain ⟨bL, cU, dM, dN, dO, dP, dQ, dR, dS, dU, dV, dW, cV⟩ := at_T79 aE.out aA aQ aT
    obtain rfl : aC = bL := (by injection cU)
    replace aQ := eq_true aQ
    replace aT := eq_true aT
    have aV : 0 ≤ (aA : Int) := dT
    have aW : aA < (l0.length : Int) := dT
    obtain ⟨cD, dI, dY, dZ, eA, eB, eC, eD, eE, eF, eG, eH, dJ⟩ := at_T79 aE.out aA aV aW
    obtain rfl : aC = cD := (by injection dI)
    replace aV := eq_true aV
    replace aW := eq_true aW
    have aX : 0 ≤ (aA : Int) := dT
    have bA : aA < (l0.length : Int) := dT
    obtain ⟨dH, eI, eL, eM, eN, eO, eP, eQ, eR, eS, eT, eU, eJ⟩ := at_T79 aE.out aA aX bA
    obtain rfl : aC = dH := (by injection eI)
    replace aX := eq_true aX
    replace bA := eq_true bA
    have bJ : 0 ≤ (aA : Int) := dT
    have bK : aA < (l0.length : Int) := dT
    obtain ⟨dX, eV, eZ, fA, fB, fC, fD, fE, fF, fG, fH, fI, eW⟩ := at_T79 aE.out aA bJ bK
    obtain rfl : aC = dX := (by injection eV)
    replace bJ := eq_true bJ
    replace bK := eq_true bK
    have cE : 0 ≤ (aA : Int) := dT
    have cG : aA < (l0.length : Int) := dT
    obtain ⟨eK, fK, fO, fP, fQ, fS, fT, fU, fV, fW, fX, fY, fL⟩ := at_T79 aE.out aA cE cG
    obtain rfl : aC = eK := (by injection fK)
    replace cE := eq_true cE
    replace cG := eq_true cG
    have dK : 0 ≤ (aA : Int) := dT
    have dL : aA < (l0.length : Int) := dT
    obtain ⟨fM, gA, gK, gM, gN, gO, gP, gQ, gR, gS, gT, gU, gB⟩ := at_T79 aE.out aA dK dL
    obtain rfl : aC = fM := (by injection gA)
    replace dK := eq_true dK
    replace dL := eq_true dL
    have eX : 0 ≤ (aA : Int) := dT
    have eY : aA < (l0.length : Int) := dT
    obtain ⟨gJ, hD, hJ, hO, hU, hX, hY, hZ, iA, iB, iC, iD, hH⟩ := at_T79 aE.out aA eX eY
    obtain rfl : aC = gJ := (by injection hD)
    replace eX := eq_true eX
    replace eY := eq_true eY
    have gG : 0 ≤ (aA : Int) := dT
    have gH : aA < (l0.length : Int) := dT
    obtain ⟨iE, iF, iH, iI, iJ, iK, iL, iM, iN, iO, iP, iQ, iG⟩ := at_T79 aE.out aA gG gH
    obtain rfl : aC = iE := (by injection iF)
    replace gG := eq_true gG
    replace gH := eq_true gH
    go_wp2
    go_ret
    exact ⟨by first | rfl | (simp; done) | (simp [*]; done), by repeat (first | exact Drawn0.refl _ | apply Drawn0.step)⟩
   rw [if_neg fN] at H
   have jB : (((rd_T79 l0 aA).f7) != ((Int.tmod (wS (wS (wS (wS (wS (wS (wS (wS (wS (wS aD)))))))))) 3) == 0)) = false := by simpa using fN
   (try (have jC : decide (((rd_T79 l0 aA).f7) = ((Int.tmod (wS (wS (wS (wS (wS (wS (wS (wS (wS (wS aD)))))))))) 3) == 0)) = true := by simpa using fN))
   (try (have jD : (((rd_T79 l0 aA).f7) == ((Int.tmod (wS (wS (wS (wS (wS (wS (wS (wS (wS (wS aD)))))))))) 3) == 0)) = true := by simpa using fN))
   clear fN
   have H' := aM H
   clear H
   have aG : 0 ≤ (aA : Int) := dT
   have aH : aA < (l0.length : Int) := dT
   obtain ⟨aC, bH, bO, bP, bQ, bT, bU, bV, bW, bX, bY, bZ, bI⟩ := at_T79 aE.out aA aG aH
   cases bH
   replace aG := eq_true aG
   replace aH := eq_true aH
   have aI : 0 ≤ (aA : Int) := dT
   have aJ : aA < (l0.length : Int) := dT
   obtain ⟨bD, bM, cH, cK, cL, cN, cO, cP, cQ, cR, cS, cT, bN⟩ := at_T79 aE.out aA aI aJ
   obtain rfl : aC = bD := (by injection bM)
   replace aI := eq_true aI
   replace aJ := eq_true aJ
   have aK : 0 ≤ (aA : Int) := dT
   have aN : aA < (l0.length : Int) := dT
   obtain ⟨bG, cA, cW, cX, cY, dA, dB, dC, dD, dE, dF, dG, cC⟩ := at_T79 aE.out aA aK aN
   obtain rfl : aC = bG := (by injection cA)
   replace aK := eq_true aK
   replace aN := eq_true aN
   have aQ : 0 ≤ (aA : Int) := dT
   have aT : aA < (l0.length : Int) := dT
   obtain ⟨bL, cU, dM, dN, dO, dP, dQ, dR, dS, dU, dV, dW, cV⟩ := at_T79 aE.out aA aQ aT
   obtain rfl : aC = bL := (by injection cU)
   replace aQ := eq_true aQ
   replace aT := eq_true aT
   have aV : 0 ≤ (aA : Int) := dT
   have aW : aA < (l0.length : Int) := dT
   obtain ⟨cD, dI, dY, dZ, eA, eB, eC, eD, eE, eF, eG, eH, dJ⟩ := at_T79 aE.out aA aV aW
   obtain rfl : aC = cD := (by injection dI)
   replace aV := eq_true aV
   replace aW := eq_true aW
   have aX : 0 ≤ (aA : Int) := dT
   have bA : aA < (l0.length : Int) := dT
   obtain ⟨dH, eI, eL, eM, eN, eO, eP, eQ, eR, eS, eT, eU, eJ⟩ := at_T79 aE.out aA aX bA
   obtain rfl : aC = dH := (by injection eI)
   replace aX := eq_true aX
   replace bA := eq_true bA
   have bJ : 0 ≤ (aA : Int) := dT
   have bK : aA < (l0.length : Int) := dT
   obtain ⟨dX, eV, eZ, fA, fB, fC, fD, fE, fF, fG, fH, fI, eW⟩ := at_T79 aE.out aA bJ bK
   obtain rfl : aC = dX := (by injection eV)
   replace bJ := eq_true bJ
   replace bK := eq_true bK
   have cE : 0 ≤ (aA : Int) := dT
   have cG : aA < (l0.length : Int) := dT
   obtain ⟨eK, fK, fO, fP, fQ, fS, fT, fU, fV, fW, fX, fY, fL⟩ := at_T79 aE.out aA cE cG
   obtain rfl : aC = eK := (by injection fK)
   replace cE := eq_true cE
   replace cG := eq_true cG
   have dK : 0 ≤ (aA : Int) := dT
   have dL : aA < (l0.length : Int) := dT
   obtain ⟨fM, gA, gK, gM, gN, gO, gP, gQ, gR, gS, gT, gU, gB⟩ := at_T79 aE.out aA dK dL
   obtain rfl : aC = fM := (by injection gA)
   replace dK := eq_true dK
   replace dL := eq_true dL
   have eX : 0 ≤ (aA : Int) := dT
   have eY : aA < (l0.length : Int) := dT
   obtain ⟨gJ, hD, hJ, hO, hU, hX, hY, hZ, iA, iB, iC, iD, hH⟩ := at_T79 aE.out aA eX eY
   obtain rfl : aC = gJ := (by injection hD)
   replace eX := eq_true eX
   replace eY := eq_true eY
   have gG : 0 ≤ (aA : Int) := dT
   have gH : aA < (l0.length : Int) := dT
   obtain ⟨iE, iF, iH, iI, iJ, iK, iL, iM, iN, iO, iP, iQ, iG⟩ := at_T79 aE.out aA gG gH
   obtain rfl : aC = iE := (by injection iF)
   replace gG := eq_true gG
   replace gH := eq_true gH
   go_wp2
   go_roundg k1
   case measure => have := jE.out; omega
   case rel => exact ⟨(wS (wS (wS (wS (wS (wS (wS (wS (wS (wS (wS aD))))))))))), (wS aA), xE, xE, H', ⟨by have := jE.out; omega⟩, by repeat (first | exact Drawn0.refl _ | apply Drawn0.step)⟩

def Z42.f (k : Nat) (aD : Int) (aC : List (S79)) (a1 : Int) : Option (Int) := (Z31.f k aC a1).bind fun aA => (if aA < 0 then (some (-1)) else (some aA))
theorem Z42.mono : ∀ a0 a1 a2 k, LeO (Z42.f k a0 a1 a2) (Z42.f (k + 1) a0 a1 a2) := by
 intro a0 a1 a2 k
 unfold Z42.f
 repeat' first|(with_reducible first|apply Z31.mono|exact lR _|exact lN _|refine lI ?_ ?_|refine lB ?_ fun _ => ?_)|exact lN _|refine lI ?_ ?_|refine lB ?_ fun _ => ?_
set_option maxHeartbeats 60000000 in
set_option maxRecDepth 100000 in
theorem Z42.calls (k : Nat) (aG : Int) (aC : Option Addr) (aD : Nat) (aA : List (S79)) (a1 r : Int) (w : World) (hr0_1 : Kd.C k79 w aC aA.length aA) (hc0_1 : aA.length ≤ aD) (h : Z42.f k aG aA a1 = some r) :
  Calls Try.prog 18 #[.agg #[aG, .slice aC aA.length aD], a1] w fun e w' => e = .returned (.int .i64 r) ∧ Below w.heap.size w w' := by
 have aW := Try.underlying28
 have aI := aM hr0_1
 have aJ := aM hc0_1
 clear hr0_1 hc0_1
 have HB := aM (Below.refl w.heap.size w)
 have H : ((Z31.f k aA a1).bind fun aE => (if aE < 0 then (some (-1)) else (some aE))) = some r := h
 clear h
 obtain ⟨aE, aT, H⟩ := hB H
 have A3 := aM aT
 clear aT
 by_cases c4 : aE < 0
 case pos =>
  rw [if_pos c4] at H
  have aV := decide_eq_true c4
  clear c4
  obtain rfl := Option.some.inj H
  go_enter Try.func18, Try.ntmps18
  go_wp2_with (first | ((with_reducible refine gD (N := 2) rfl ?_); refine bE (N := 2) (cs := #[aG, .slice aC aA.length aD]) (t := 28) ?_; intro aK hg w5 hbox hb; have aH := aM (hbox); have aN := gF hg HB; have aQ := gF hg HB; replace HB := rS HB hb; clear hb hbox hg; have aX := cA2 aH.out) | ((with_reducible refine gC (f := 75) rfl ?_); refine gL (some 8) Try.func75 #[.slice aC aA.length aD, a1] ?_; (with_reducible refine (Z31.calls k _ _ aA a1 aE _ ?side1 ?side2 A3.out).mono ?_); (case side1 => exact cM (cB aI.out HB.out)); (case side2 => exact aJ.out); rintro e w' ⟨rfl, ⟨nd, rfl⟩⟩; refine ⟨_, rfl, ?_⟩))
  go_ret
  exact ⟨xW, bl HB.out⟩
 rw [if_neg c4] at H
 have aV := decide_eq_false c4
 clear c4
 obtain rfl := Option.some.inj H
 go_enter Try.func18, Try.ntmps18
 go_wp2_with (first | ((with_reducible refine gD (N := 2) rfl ?_); refine bE (N := 2) (cs := #[aG, .slice aC aA.length aD]) (t := 28) ?_; intro aK hg w7 hbox hb; have aH := aM (hbox); have aN := gF hg HB; have aQ := gF hg HB; replace HB := rS HB hb; clear hb hbox hg; have bA := cA2 aH.out) | ((with_reducible refine gC (f := 75) rfl ?_); refine gL (some 8) Try.func75 #[.slice aC aA.length aD, a1] ?_; (with_reducible refine (Z31.calls k _ _ aA a1 aE _ ?side1 ?side2 A3.out).mono ?_); (case side1 => exact cM (cB aI.out HB.out)); (case side2 => exact aJ.out); rintro e w' ⟨rfl, ⟨nd, rfl⟩⟩; refine ⟨_, rfl, ?_⟩))
 go_ret
 exact ⟨xW, bl HB.out⟩

def Z15.f (a0 a1 a2 : Int) : Option (Bool) := if a0 ≥ a1 then (some (decide (a0 ≤ a2))) else (some false)
set_option maxHeartbeats 60000000 in
set_option maxRecDepth 100000 in
theorem Z15.calls (a0 a1 a2 : Int) (r : Bool) (w : World) (h : Z15.f a0 a1 a2 = some r) :
  Calls Try.prog 86 #[a0, a1, a2] w fun e w' => e = .returned (.bool r) ∧ Drawn0 w w' := by
 have H : (if a0 ≥ a1 then (some (decide (a0 ≤ a2))) else (some false)) = some r := h
 clear h
 by_cases c4 : a0 ≥ a1
 case pos =>
  rw [if_pos c4] at H
  have aA := decide_eq_true c4
  clear c4
  obtain rfl := Option.some.inj H
  go_enter Try.func86, Try.ntmps86
  go_wp2
  go_ret
  exact ⟨by first | rfl | (simp; done) | (simp [*]; done), by repeat (first | exact Drawn0.refl _ | apply Drawn0.step)⟩
 rw [if_neg c4] at H
 have aA := decide_eq_false c4
 clear c4
 obtain rfl := Option.some.inj H
 go_enter Try.func86, Try.ntmps86
 go_wp2
 go_ret
 exact ⟨by first | rfl | (simp; done) | (simp [*]; done), by repeat (first | exact Drawn0.refl _ | apply Drawn0.step)⟩

def Z37.f (a0 : Int) : Option (Bool) := (Z15.f a0 0 3).bind fun aA => (some aA)
set_option maxHeartbeats 60000000 in
set_option maxRecDepth 100000 in
theorem Z37.calls (a0 : Int) (r : Bool) (w : World) (h : Z37.f a0 = some r) :
  Calls Try.prog 170 #[a0] w fun e w' => e = .returned (.bool r) ∧ Drawn0 w w' := by
 have H : ((Z15.f a0 0 3).bind fun aA => (some aA)) = some r := h
 clear h
 obtain ⟨aA, aC, H⟩ := hB H
 have A2 := aM aC
 clear aC
 obtain rfl := Option.some.inj H
 go_enter Try.func170, Try.ntmps170
 go_wp2_with (first | ((with_reducible refine gC (f := 86) rfl ?_); refine gL (some 4) Try.func86 #[a0, .int .i64 0, .int .i64 3] ?_; (with_reducible refine (Z15.calls a0 0 3 aA _ A2.out).mono ?_); rintro e w' ⟨rfl, ⟨nd, rfl⟩⟩; refine ⟨_, rfl, ?_⟩))
 go_ret
 exact ⟨by first | rfl | (simp; done) | (simp [*]; done), by repeat (first | exact Drawn0.refl _ | apply Drawn0.step)⟩

def Z43.f (aA aD aC aE : Int) : Option (Bool) := (Z15.f aA 1 9).bind fun aG => (if aG = true then ((Z15.f aC 1 9).bind fun aH => (if aH = true then (if aA > aC then (some false) else ((Z37.f aE).bind fun aI => (if aI = true then ((Z15.f aD 0 20).bind fun aJ => (if aJ = true then (some ((aD == 0) == (aA == aC))) else (some false))) else (some false)))) else (some false))) else (some false))
set_option maxHeartbeats 60000000 in
set_option maxRecDepth 100000 in
theorem Z43.calls (aA aD aC aG : Int) (r : Bool) (w : World) (h : Z43.f aA aD aC aG = some r) :
  Calls Try.prog 178 #[.agg #[aA, aD, aC, aG]] w fun e w' => e = .returned (.bool r) ∧ Below w.heap.size w w' := by
 have bO := Try.underlying73
 have HB := aM (Below.refl w.heap.size w)
 have H : ((Z15.f aA 1 9).bind fun aK => (if aK = true then ((Z15.f aC 1 9).bind fun aN => (if aN = true then (if aA > aC then (some false) else ((Z37.f aG).bind fun aQ => (if aQ = true then ((Z15.f aD 0 20).bind fun aT => (if aT = true then (some ((aD == 0) == (aA == aC))) else (some false))) else (some false)))) else (some false))) else (some false))) = some r := h
 clear h
 obtain ⟨aK, bA, H⟩ := hB H
 have A2 := aM bA
 clear bA
 by_cases c3 : aK = true
 case neg =>
  replace c3 := Bool.eq_false_iff.mpr c3
  subst c3
  replace H := hF H
  obtain rfl := Option.some.inj H
  go_enter Try.func178, Try.ntmps178
  go_wp2_with (first | ((with_reducible refine gD (N := 1) rfl ?_); refine bE (N := 1) (cs := #[aA, aD, aC, aG]) (t := 73) ?_; intro aH hg bQ hbox hb; have aE := aM (hbox); have aI := gF hg HB; have aJ := gF hg HB; replace HB := rS HB hb; clear hb hbox hg; have bJ := cA4 aE.out) | ((with_reducible refine gC (f := 86) rfl ?_); refine gL (some 5) Try.func86 #[aA, .int .i64 1, .int .i64 9] ?_; (with_reducible refine (Z15.calls aA 1 9 false _ A2.out).mono ?_); rintro e w' ⟨rfl, ⟨nd, rfl⟩⟩; refine ⟨_, rfl, ?_⟩))
  go_ret
  exact ⟨xW, bl HB.out⟩
 subst c3
 replace H := hP H rfl
 obtain ⟨aN, bD, H⟩ := hB H
 have A4 := aM bD
 clear bD
 by_cases c5 : aN = true
 case neg =>
  replace c5 := Bool.eq_false_iff.mpr c5
  subst c5
  replace H := hF H
  obtain rfl := Option.some.inj H
  go_enter Try.func178, Try.ntmps178
  go_wp2_with (first | ((with_reducible refine gD (N := 1) rfl ?_); refine bE (N := 1) (cs := #[aA, aD, aC, aG]) (t := 73) ?_; intro aH hg bT hbox hb; have aE := aM (hbox); have aI := gF hg HB; have aJ := gF hg HB; replace HB := rS HB hb; clear hb hbox hg; have bK := cA4 aE.out) | ((with_reducible refine gC (f := 86) rfl ?_); refine gL (some 5) Try.func86 #[aA, .int .i64 1, .int .i64 9] ?_; (with_reducible refine (Z15.calls aA 1 9 true _ A2.out).mono ?_); rintro e w' ⟨rfl, ⟨nd, rfl⟩⟩; refine ⟨_, rfl, ?_⟩) | (go_at_call 86; (with_reducible refine (Z15.calls aC 1 9 false _ A4.out).mono ?_); rintro e w' ⟨rfl, ⟨nd, rfl⟩⟩))
  go_ret
  exact ⟨xW, bl HB.out⟩
 subst c5
 replace H := hP H rfl
 by_cases c6 : aA > aC
 case pos =>
  rw [if_pos c6] at H
  have bI := decide_eq_true c6
  clear c6
  obtain rfl := Option.some.inj H
  go_enter Try.func178, Try.ntmps178
  go_wp2_with (first | ((with_reducible refine gD (N := 1) rfl ?_); refine bE (N := 1) (cs := #[aA, aD, aC, aG]) (t := 73) ?_; intro aH hg w7 hbox hb; have aE := aM (hbox); have aI := gF hg HB; have aJ := gF hg HB; replace HB := rS HB hb; clear hb hbox hg; have bP := cA4 aE.out) | ((with_reducible refine gC (f := 86) rfl ?_); refine gL (some 5) Try.func86 #[aA, .int .i64 1, .int .i64 9] ?_; (with_reducible refine (Z15.calls aA 1 9 true _ A2.out).mono ?_); rintro e w' ⟨rfl, ⟨nd, rfl⟩⟩; refine ⟨_, rfl, ?_⟩) | (go_at_call 86; (with_reducible refine (Z15.calls aC 1 9 true _ A4.out).mono ?_); rintro e w' ⟨rfl, ⟨nd, rfl⟩⟩))
  go_ret
  exact ⟨xW, bl HB.out⟩
 rw [if_neg c6] at H
 have bI := decide_eq_false c6
 clear c6
 obtain ⟨aQ, bG, H⟩ := hB H
 have A9 := aM bG
 clear bG
 by_cases aV : aQ = true
 case neg =>
  replace aV := Bool.eq_false_iff.mpr aV
  subst aV
  replace H := hF H
  obtain rfl := Option.some.inj H
  go_enter Try.func178, Try.ntmps178
  go_wp2_with (first | ((with_reducible refine gD (N := 1) rfl ?_); refine bE (N := 1) (cs := #[aA, aD, aC, aG]) (t := 73) ?_; intro aH hg bU hbox hb; have aE := aM (hbox); have aI := gF hg HB; have aJ := gF hg HB; replace HB := rS HB hb; clear hb hbox hg; have bL := cA4 aE.out) | ((with_reducible refine gC (f := 86) rfl ?_); refine gL (some 5) Try.func86 #[aA, .int .i64 1, .int .i64 9] ?_; (with_reducible refine (Z15.calls aA 1 9 true _ A2.out).mono ?_); rintro e w' ⟨rfl, ⟨nd, rfl⟩⟩; refine ⟨_, rfl, ?_⟩) | (go_at_call 86; (with_reducible refine (Z15.calls aC 1 9 true _ A4.out).mono ?_); rintro e w' ⟨rfl, ⟨nd, rfl⟩⟩) | (go_at_call 170; (with_reducible refine (Z37.calls aG false _ A9.out).mono ?_); rintro e w' ⟨rfl, ⟨nd, rfl⟩⟩))
  go_ret
  exact ⟨xW, bl HB.out⟩
 subst aV
 replace H := hP H rfl
 obtain ⟨aT, aX, H⟩ := hB H
 have bH := aM aX
 clear aX
 by_cases aW : aT = true
 case pos =>
  subst aW
  replace H := hP H rfl
  obtain rfl := Option.some.inj H
  go_enter Try.func178, Try.ntmps178
  go_wp2_with (first | ((with_reducible refine gD (N := 1) rfl ?_); refine bE (N := 1) (cs := #[aA, aD, aC, aG]) (t := 73) ?_; intro aH hg bV hbox hb; have aE := aM (hbox); have aI := gF hg HB; have aJ := gF hg HB; replace HB := rS HB hb; clear hb hbox hg; have bM := cA4 aE.out) | ((with_reducible refine gC (f := 86) rfl ?_); refine gL (some 5) Try.func86 #[aA, .int .i64 1, .int .i64 9] ?_; (with_reducible refine (Z15.calls aA 1 9 true _ A2.out).mono ?_); rintro e w' ⟨rfl, ⟨nd, rfl⟩⟩; refine ⟨_, rfl, ?_⟩) | (go_at_call 86; (with_reducible refine (Z15.calls aC 1 9 true _ A4.out).mono ?_); rintro e w' ⟨rfl, ⟨nd, rfl⟩⟩) | (go_at_call 170; (with_reducible refine (Z37.calls aG true _ A9.out).mono ?_); rintro e w' ⟨rfl, ⟨nd, rfl⟩⟩) | ((with_reducible refine gC (f := 86) rfl ?_); refine gL (some 28) Try.func86 #[aD, .int .i64 0, .int .i64 20] ?_; (with_reducible refine (Z15.calls aD 0 20 true _ bH.out).mono ?_); rintro e w' ⟨rfl, ⟨nd, rfl⟩⟩; refine ⟨_, rfl, ?_⟩))
  go_ret
  exact ⟨xW, bl HB.out⟩
 replace aW := Bool.eq_false_iff.mpr aW
 subst aW
 replace H := hF H
 obtain rfl := Option.some.inj H
 go_enter Try.func178, Try.ntmps178
 go_wp2_with (first | ((with_reducible refine gD (N := 1) rfl ?_); refine bE (N := 1) (cs := #[aA, aD, aC, aG]) (t := 73) ?_; intro aH hg bW hbox hb; have aE := aM (hbox); have aI := gF hg HB; have aJ := gF hg HB; replace HB := rS HB hb; clear hb hbox hg; have bN := cA4 aE.out) | ((with_reducible refine gC (f := 86) rfl ?_); refine gL (some 5) Try.func86 #[aA, .int .i64 1, .int .i64 9] ?_; (with_reducible refine (Z15.calls aA 1 9 true _ A2.out).mono ?_); rintro e w' ⟨rfl, ⟨nd, rfl⟩⟩; refine ⟨_, rfl, ?_⟩) | (go_at_call 86; (with_reducible refine (Z15.calls aC 1 9 true _ A4.out).mono ?_); rintro e w' ⟨rfl, ⟨nd, rfl⟩⟩) | (go_at_call 170; (with_reducible refine (Z37.calls aG true _ A9.out).mono ?_); rintro e w' ⟨rfl, ⟨nd, rfl⟩⟩) | ((with_reducible refine gC (f := 86) rfl ?_); refine gL (some 28) Try.func86 #[aD, .int .i64 0, .int .i64 20] ?_; (with_reducible refine (Z15.calls aD 0 20 false _ bH.out).mono ?_); rintro e w' ⟨rfl, ⟨nd, rfl⟩⟩; refine ⟨_, rfl, ?_⟩))
 go_ret
 exact ⟨xW, bl HB.out⟩

end Go.Proofs.Ythmijfekdeagpaa.PFnExactReact
