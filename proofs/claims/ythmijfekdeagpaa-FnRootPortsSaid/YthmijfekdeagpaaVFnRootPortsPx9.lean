/- Of the proof of laws.FnRootPorts: a part. No condition beyond what its theorems say. -/
import Derived.Test.YthmijfekdeagpaaVFnRootPortsPx8
namespace Go.Proofs.Ythmijfekdeagpaa.PFnRootPorts
open Go.RowKit Go.Proofs.YthmijfekdeagpaaW.PrintWords Go.Proofs.YthmijfekdeagpaaW.PrintLast Go.Proofs.YthmijfekdeagpaaW.PrintMore
attribute [local go_sem] max2_int min2_int max_two min_two max_three min_three max_four min_four   -- for this text's walks alone
set_option linter.unusedVariables false
set_option linter.unusedSimpArgs false

mutual
def spec_Turn.j0 : Nat → Int → Bool → Bool → Bool → Int → Int → Int → Int → Int → Int → Int → Int → Bool → Option (Bool × Bool × Int × Int × Int × Int × Int × Int × Int × Int × Bool)
 | 0, _, _, _, _, _, _, _, _, _, _, _, _, _ => none
 | k + 1, x1, aT, aC, aD, aE, aG, aH, aI, aJ, aK, aA, aN, aQ => if aT = true then (some (aC, aD, aE, aG, aH, aI, aJ, aK, aA, aN, aQ)) else (if aA = 3 then (spec_Turn.j1 k x1 (x1 != 3) aC aD aE aG aH aI aJ aK aA aN aQ) else (spec_Turn.j1 k x1 false aC aD aE aG aH aI aJ aK aA aN aQ))
def spec_Turn.j1 : Nat → Int → Bool → Bool → Bool → Int → Int → Int → Int → Int → Int → Int → Int → Bool → Option (Bool × Bool × Int × Int × Int × Int × Int × Int × Int × Int × Bool)
 | 0, _, _, _, _, _, _, _, _, _, _, _, _, _ => none
 | k + 1, x1, aZ, aG, aH, aI, aJ, aK, aN, aQ, aT, aX, aW, aV => if aZ = true then (if x1 = 3 then ((spec_l7Open.f aG aH aI aJ aK aN aQ aT x1 0 aV).bind fun aA => (some (aA.1, aA.2.1, aA.2.2.1, aA.2.2.2.1, aA.2.2.2.2.1, aA.2.2.2.2.2.1, aA.2.2.2.2.2.2.1, aA.2.2.2.2.2.2.2.1, aA.2.2.2.2.2.2.2.2.1, aA.2.2.2.2.2.2.2.2.2.1, aA.2.2.2.2.2.2.2.2.2.2))) else ((spec_l7Open.f aG aH aI aJ aK aN aQ aT x1 4 aV).bind fun aC => (some (aC.1, aC.2.1, aC.2.2.1, aC.2.2.2.1, aC.2.2.2.2.1, aC.2.2.2.2.2.1, aC.2.2.2.2.2.2.1, aC.2.2.2.2.2.2.2.1, aC.2.2.2.2.2.2.2.2.1, aC.2.2.2.2.2.2.2.2.2.1, aC.2.2.2.2.2.2.2.2.2.2)))) else (if x1 = 3 then ((spec_l7Open.f aG aH aI aJ aK aN aQ aT x1 0 aV).bind fun aD => (some (aD.1, aD.2.1, aD.2.2.1, aD.2.2.2.1, aD.2.2.2.2.1, aD.2.2.2.2.2.1, aD.2.2.2.2.2.2.1, aD.2.2.2.2.2.2.2.1, aD.2.2.2.2.2.2.2.2.1, aD.2.2.2.2.2.2.2.2.2.1, aD.2.2.2.2.2.2.2.2.2.2))) else ((spec_l7Open.f aG aH aI aJ aK aN aQ aT x1 aW aV).bind fun aE => (some (aE.1, aE.2.1, aE.2.2.1, aE.2.2.2.1, aE.2.2.2.2.1, aE.2.2.2.2.2.1, aE.2.2.2.2.2.2.1, aE.2.2.2.2.2.2.2.1, aE.2.2.2.2.2.2.2.2.1, aE.2.2.2.2.2.2.2.2.2.1, aE.2.2.2.2.2.2.2.2.2.2))))
end
def spec_Turn.f (k : Nat) (aC : Bool) (aD : Bool) (aE : Int) (aG : Int) (aH : Int) (aI : Int) (aJ : Int) (aK : Int) (aN : Int) (aQ : Int) (aA : Bool) (a1 : Int) : Option (Bool × Bool × Int × Int × Int × Int × Int × Int × Int × Int × Bool) := (spec_PortOk.f k aC aD aE aG aH aI aJ aK aN aQ aA).bind fun aT => (if aT = true then (if aC = true then ((spec_l1In.f a1 1 3).bind fun aV => (spec_Turn.j0 k a1 (!aV) aC aD aE aG aH aI aJ aK aN aQ aA)) else (spec_Turn.j0 k a1 true aC aD aE aG aH aI aJ aK aN aQ aA)) else (spec_Turn.j0 k a1 true aC aD aE aG aH aI aJ aK aN aQ aA))
theorem spec_Turn.mono_l : ∀ k, (∀ y0 y1 y2 y3 y4 y5 y6 y7 y8 y9 aA aC aD, LeO (spec_Turn.j0 k y0 y1 y2 y3 y4 y5 y6 y7 y8 y9 aA aC aD) (spec_Turn.j0 (k + 1) y0 y1 y2 y3 y4 y5 y6 y7 y8 y9 aA aC aD)) ∧ (∀ y0 y1 y2 y3 y4 y5 y6 y7 y8 y9 aA aC aD, LeO (spec_Turn.j1 k y0 y1 y2 y3 y4 y5 y6 y7 y8 y9 aA aC aD) (spec_Turn.j1 (k + 1) y0 y1 y2 y3 y4 y5 y6 y7 y8 y9 aA aC aD))
 | 0 => ⟨fun _ _ _ _ _ _ _ _ _ _ _ _ _ r h => by simp [spec_Turn.j0] at h, fun _ _ _ _ _ _ _ _ _ _ _ _ _ r h => by simp [spec_Turn.j1] at h⟩
 | k + 1 => by
  obtain ⟨ih0, ih1⟩ := spec_Turn.mono_l k
  refine ⟨?_, ?_⟩
  ·intro y0 y1 y2 y3 y4 y5 y6 y7 y8 y9 aA aC aD
   unfold spec_Turn.j0
   repeat' first|(with_reducible first|apply ih0|apply ih1|apply spec_PortOk.mono|exact LeO.refl _|exact LeO.none _|refine LeO.ite ?_ ?_|refine LeO.bind ?_ (fun _ => ?_))|exact LeO.none _|refine LeO.ite ?_ ?_|refine LeO.bind ?_ (fun _ => ?_)
  ·intro y0 y1 y2 y3 y4 y5 y6 y7 y8 y9 aA aC aD
   unfold spec_Turn.j1
   repeat' first|(with_reducible first|apply ih0|apply ih1|apply spec_PortOk.mono|exact LeO.refl _|exact LeO.none _|refine LeO.ite ?_ ?_|refine LeO.bind ?_ (fun _ => ?_))|exact LeO.none _|refine LeO.ite ?_ ?_|refine LeO.bind ?_ (fun _ => ?_)
theorem spec_Turn.mono : ∀ a0 a1 a2 a3 a4 a5 a6 a7 a8 a9 aA aC k, LeO (spec_Turn.f k a0 a1 a2 a3 a4 a5 a6 a7 a8 a9 aA aC) (spec_Turn.f (k + 1) a0 a1 a2 a3 a4 a5 a6 a7 a8 a9 aA aC) := by
 intro a0 a1 a2 a3 a4 a5 a6 a7 a8 a9 aA aC k
 obtain ⟨ih0, ih1⟩ := spec_Turn.mono_l k
 unfold spec_Turn.f
 repeat' first|(with_reducible first|apply ih0|apply ih1|apply spec_PortOk.mono|exact LeO.refl _|exact LeO.none _|refine LeO.ite ?_ ?_|refine LeO.bind ?_ (fun _ => ?_))|exact LeO.none _|refine LeO.ite ?_ ?_|refine LeO.bind ?_ (fun _ => ?_)
set_option maxHeartbeats 60000000 in
set_option maxRecDepth 100000 in
theorem spec_Turn.calls (k : Nat) (aQ : Bool) (aE : Bool) (aG : Int) (aH : Int) (aI : Int) (aJ : Int) (aK : Int) (aN : Int) (aT : Int) (aV : Int) (aA : Bool) (a1 : Int) (r1 : Bool) (r2 : Bool) (r3 : Int) (r4 : Int) (r5 : Int) (r6 : Int) (r7 : Int) (r8 : Int) (r9 : Int) (bM : Int) (bN : Bool) (w : World) (h : spec_Turn.f k aQ aE aG aH aI aJ aK aN aT aV aA a1 = some (r1, r2, r3, r4, r5, r6, r7, r8, r9, bM, bN)) :
  Calls Try.prog 69 #[.agg #[aQ, aE, aG, aH, aI, aJ, aK, aN, aT, aV, aA], a1] w fun e w' => e = .returned (.agg #[r1, r2, r3, r4, r5, r6, r7, r8, r9, bM, bN]) ∧ Below w.heap.size w w' := by
 have nA := Try.underlying79
 have HB := aM (Below.refl w.heap.size w)
 have H : ((spec_PortOk.f k aQ aE aG aH aI aJ aK aN aT aV aA).bind fun bP => (if bP = true then (if aQ = true then ((spec_l1In.f a1 1 3).bind fun bL => (spec_Turn.j0 k a1 (!bL) aQ aE aG aH aI aJ aK aN aT aV aA)) else (spec_Turn.j0 k a1 true aQ aE aG aH aI aJ aK aN aT aV aA)) else (spec_Turn.j0 k a1 true aQ aE aG aH aI aJ aK aN aT aV aA))) = some (r1, r2, r3, r4, r5, r6, r7, r8, r9, bM, bN) := h
 clear h
 have eR := aM H
 clear H
 go_enter Try.func69, Try.ntmps69
 go_upto_region 1 with (first | ((with_reducible refine gD (N := 2) rfl ?_); refine bE (N := 2) (cs := #[aQ, aE, aG, aH, aI, aJ, aK, aN, aT, aV, aA]) (t := 79) ?_; intro bA hg w4 hbox hb; have aC := aM (hbox); have lU := gF hg HB; have lV := gF hg HB; replace HB := rS HB hb; clear hb hbox hg) | ((with_reducible refine gD (N := 4) rfl ?_); refine bE (N := 4) (cs := #[.bool false, .bool false, .int .i64 0, .int .i64 0, .int .i64 0, .int .i64 0, .int .i64 0, .int .i64 0, .int .i64 0, .int .i64 0, .bool false]) (t := 79) ?_; intro aZ hg w5 hbox hb; have aD := aM (hbox); have lW := gF hg HB; have lX := gF hg HB; have aW := nM hg aC; have aX := nH hg aC; replace aC := rB aC hb; replace HB := rS HB hb; clear hb hbox hg))
 (try simp only [Act.put, sA, sZ, sS])
 go_cut [17] (fun lJ wc => ∃ (kq : Nat) (bI : Bool), lJ = .bool bI ∧ Aside0 (spec_Turn.j0 kq a1 bI aQ aE aG aH aI aJ aK aN aT aV aA = some (r1, r2, r3, r4, r5, r6, r7, r8, r9, bM, bN)) ∧ Aside0 (kq ≤ k) ∧ Aside0 (wc.heap[bA]? = some (.cells #[aQ, aE, aG, aH, aI, aJ, aK, aN, aT, aV, aA] 79 (0, 0))) ∧ Aside0 (wc.heap[aZ]? = some (.cells #[.bool false, .bool false, .int .i64 0, .int .i64 0, .int .i64 0, .int .i64 0, .int .i64 0, .int .i64 0, .int .i64 0, .int .i64 0, .bool false] 79 (0, 0))) ∧ Aside0 (Below w.heap.size w wc))
 case first =>
  have H := eR.out
  clear eR
  obtain ⟨bP, hZ, H⟩ := hB H
  have A6 := aM hZ
  clear hZ
  by_cases c7 : bP = true
  case neg =>
   replace c7 := Bool.eq_false_iff.mpr c7
   subst c7
   replace H := hF H
   have H' := aM H
   clear H
   have lY := aW.out
   have lZ := aX.out
   have bY := cA11 aC.out
   go_wp2_with (first | ((with_reducible refine gC (f := 123) rfl ?_); refine gL (some 6) Try.func123 #[.agg #[aQ, aE, aG, aH, aI, aJ, aK, aN, aT, aV, aA]] ?_; (with_reducible refine (spec_PortOk.calls k aQ aE aG aH aI aJ aK aN aT aV aA false _ A6.out).mono ?_); rintro e nC ⟨rfl, hb⟩; refine ⟨_, rfl, ?_⟩; replace aC := rB aC hb; replace aD := rB aD hb; replace HB := rS HB hb; (try clear hb)))
   go_meet
   case rel => exact ⟨_, (true), xE, H', ⟨by first | omega | exact Nat.le_refl _⟩, ⟨bk aC.out⟩, ⟨bk aD.out⟩, ⟨bl HB.out⟩⟩
  subst c7
  replace H := hP H rfl
  by_cases c8 : aQ = true
  case neg =>
   replace c8 := Bool.eq_false_iff.mpr c8
   subst c8
   replace H := hF H
   have H' := aM H
   clear H
   have mA := aW.out
   have mB := aX.out
   have bZ := cA11 aC.out
   go_wp2_with (first | ((with_reducible refine gC (f := 123) rfl ?_); refine gL (some 6) Try.func123 #[.agg #[.bool false, aE, aG, aH, aI, aJ, aK, aN, aT, aV, aA]] ?_; (with_reducible refine (spec_PortOk.calls k false aE aG aH aI aJ aK aN aT aV aA true _ A6.out).mono ?_); rintro e nD ⟨rfl, hb⟩; refine ⟨_, rfl, ?_⟩; replace aC := rB aC hb; replace aD := rB aD hb; replace HB := rS HB hb; (try clear hb); have cA := cA11 aC.out))
   go_meet
   case rel => exact ⟨_, (true), xE, H', ⟨by first | omega | exact Nat.le_refl _⟩, ⟨bk aC.out⟩, ⟨bk aD.out⟩, ⟨bl HB.out⟩⟩
  subst c8
  replace H := hP H rfl
  obtain ⟨bL, iA, H⟩ := hB H
  have A9 := aM iA
  clear iA
  have H' := aM H
  clear H
  have mC := aW.out
  have mD := aX.out
  have cC := cA11 aC.out
  go_wp2_with (first | ((with_reducible refine gC (f := 123) rfl ?_); refine gL (some 6) Try.func123 #[.agg #[.bool true, aE, aG, aH, aI, aJ, aK, aN, aT, aV, aA]] ?_; (with_reducible refine (spec_PortOk.calls k true aE aG aH aI aJ aK aN aT aV aA true _ A6.out).mono ?_); rintro e nE ⟨rfl, hb⟩; refine ⟨_, rfl, ?_⟩; replace aC := rB aC hb; replace aD := rB aD hb; replace HB := rS HB hb; (try clear hb); have cD := cA11 aC.out) | (go_at_call 80; (with_reducible refine (spec_l1In.calls a1 1 3 bL _ A9.out).mono ?_); rintro e w' ⟨rfl, ⟨nd, rfl⟩⟩))
  go_meet
  case rel => exact ⟨_, (!bL), xE, H', ⟨by first | omega | exact Nat.le_refl _⟩, ⟨bk aC.out⟩, ⟨bk aD.out⟩, ⟨bl HB.out⟩⟩
 case rest =>
  clear eR
  repeat first|clear c1|clear p2|clear c6|clear c7|clear c8|clear lK|clear lL|clear lM|clear lN|clear cC|clear cH|clear bQ|clear cK|clear cL|clear cN|clear cO|clear cP|clear cQ|clear cR|clear cS|clear cD|clear bZ|clear cT|clear bR|clear cU|clear cV|clear cW|clear cX|clear cY|clear dA|clear dB|clear dC|clear cA|clear bY|clear dD|clear bT|clear dE|clear dF|clear dG|clear dH|clear dI|clear dJ|clear dK|clear dL|clear dM|clear dN|clear bU|clear dO|clear dP|clear dQ|clear dR|clear dS|clear dU|clear dV|clear dW|clear dX|clear dY|clear bV|clear dZ|clear eA|clear eB|clear eC|clear eD|clear eE|clear eF|clear eG|clear eH|clear eI|clear bW|clear eJ|clear eK|clear eL|clear eM|clear eN|clear eO|clear eP|clear eQ
  obtain ⟨kq, bI, rfl, HA, HJ2, aC, aD, HB⟩ := hcut
  cases kq with
  | zero => exact absurd HA.out (by simp [spec_Turn.j0])
  | succ lO =>
   have H := HA.out
   clear HA
   simp only [spec_Turn.j0] at H
   by_cases bO : bI = true
   case pos =>
    subst bO
    replace H := hP H rfl
    simp only [Option.some.injEq, Prod.mk.injEq] at H
    obtain ⟨rfl, rfl, rfl, rfl, rfl, rfl, rfl, rfl, rfl, rfl, rfl⟩ := H
    have mE := aW.out
    have mF := aX.out
    have gX := cA11 aC.out
    have gY := cA11 aD.out
    go_wp2
    refine bodyPost_ret (results_cell_row rfl _ _ aZ 79 #[aQ, aE, aG, aH, aI, aJ, aK, aN, aT, aV, aA] (0, 0) _ rfl (bm aD.out) Try.underlying79 rfl (by kernel_rfl)) rfl ?_
    exact ⟨xW, bl HB.out⟩
   replace bO := Bool.eq_false_iff.mpr bO
   subst bO
   replace H := hF H
   have bX := aM H
   clear H
   go_upto_region 3 with (fail)
   go_cut [25] (fun lP wc => ∃ (kq : Nat) (bG : Bool), lP = .bool bG ∧ Aside0 (spec_Turn.j1 kq a1 bG aQ aE aG aH aI aJ aK aN aT aV aA = some (r1, r2, r3, r4, r5, r6, r7, r8, r9, bM, bN)) ∧ Aside0 (kq ≤ lO) ∧ Aside0 (wc.heap[bA]? = some (.cells #[aQ, aE, aG, aH, aI, aJ, aK, aN, aT, aV, aA] 79 (0, 0))) ∧ Aside0 (wc.heap[aZ]? = some (.cells #[.bool false, .bool false, .int .i64 0, .int .i64 0, .int .i64 0, .int .i64 0, .int .i64 0, .int .i64 0, .int .i64 0, .int .i64 0, .bool false] 79 (0, 0))) ∧ Aside0 (Below w.heap.size w wc))
   case first =>
    have H := bX.out
    clear bX
    by_cases bH : aT = 3
    case neg =>
     rw [if_neg bH] at H
     have bD : (aT == 3) = false := beq_eq_false_iff_ne.mpr bH
     have cE : (aT != 3) = true := bne_iff_ne.mpr bH
     (first | rw [bD] | (simp only [i64_w, i32_w]; rw [bD]) | skip)
     have H' := aM H
     clear H
     have mG := aW.out
     have mH := aX.out
     have gZ := cA11 aC.out
     go_wp2
     go_meet
     case rel => exact ⟨_, (false), xE, H', ⟨by have := HJ2.out; first | omega | exact Nat.le_refl _⟩, ⟨bk aC.out⟩, ⟨bk aD.out⟩, ⟨bl HB.out⟩⟩
    rw [if_pos bH] at H
    have bD : (aT == 3) = true := beq_iff_eq.mpr bH
    have cE : (aT != 3) = false := bne_eq_false_iff_eq.mpr bH
    clear bH
    (first | rw [bD] | (simp only [i64_w, i32_w]; rw [bD]) | skip)
    have H' := aM H
    clear H
    have mI := aW.out
    have mJ := aX.out
    have hJ := cA11 aC.out
    go_wp2
    go_meet
    case rel => exact ⟨_, ((a1 != 3)), xE, H', ⟨by have := HJ2.out; first | omega | exact Nat.le_refl _⟩, ⟨bk aC.out⟩, ⟨bk aD.out⟩, ⟨bl HB.out⟩⟩
   case rest =>
    clear bX
    repeat first|clear c1|clear c2|clear p2|clear c6|clear c7|clear c8|clear lK|clear lL|clear lM|clear lN|clear bO|clear nF|clear bH|clear bD|clear cE|clear nI|clear nJ|clear cC|clear cH|clear bQ|clear cK|clear cL|clear cN|clear cO|clear cP|clear cQ|clear cR|clear cS|clear cD|clear bZ|clear cT|clear bR|clear cU|clear cV|clear cW|clear cX|clear cY|clear dA|clear dB|clear dC|clear cA|clear bY|clear dD|clear bT|clear dE|clear dF|clear dG|clear dH|clear dI|clear dJ|clear dK|clear dL|clear gX|clear iJ|clear iB|clear iK|clear iL|clear iM|clear iN|clear iO|clear iP|clear iQ|clear iR|clear gY|clear iS|clear iC|clear iT|clear iU|clear iV|clear iW|clear iX|clear iY|clear iZ|clear jA|clear hJ|clear jB|clear iD|clear jC|clear jD|clear jE|clear jF|clear jG|clear jH|clear jI|clear jJ|clear gZ|clear jK|clear iE|clear jL|clear jM|clear jN|clear jO|clear jP|clear jQ|clear jR|clear jS|clear dM|clear dN|clear bU|clear dO|clear dP|clear dQ|clear dR|clear dS|clear dU|clear dV|clear dW|clear dX|clear dY|clear bV|clear dZ|clear eA|clear eB|clear eC|clear eD|clear eE|clear eF|clear eG|clear eH|clear eI|clear bW|clear eJ|clear eK|clear eL|clear eM|clear eN|clear eO|clear eP|clear eQ|clear jT|clear jU|clear iF|clear jV|clear jW|clear jX|clear jY|clear jZ|clear kA|clear kC|clear kD|clear kE|clear kG|clear iG|clear kH|clear kI|clear kJ|clear kK|clear kL|clear kM|clear kN|clear kO|clear kP|clear kQ|clear iH|clear kR|clear kS|clear kT|clear kU|clear kV|clear kW|clear kX|clear kY|clear kZ|clear lA|clear iI|clear lB|clear lC|clear lD|clear lE|clear lF|clear lG|clear lH|clear lI|clear p2
    obtain ⟨kq, bG, rfl, HA, HJ24, aC, aD, HB⟩ := hcut
    cases kq with
    | zero => exact absurd HA.out (by simp [spec_Turn.j1])
    | succ nB =>
     have H := HA.out
     clear HA
     simp only [spec_Turn.j1] at H
     by_cases cG : bG = true
     case pos =>
      subst cG
      replace H := hP H rfl
      by_cases bJ : a1 = 3
      case neg =>
       rw [if_neg bJ] at H
       have hO : (a1 == 3) = false := beq_eq_false_iff_ne.mpr bJ
       have hU : (a1 != 3) = true := bne_iff_ne.mpr bJ
       obtain ⟨⟨eS, eT, eU, eV, eW, eX, eY, eZ, fA, fB, fC⟩, fD, H⟩ := hB H
       try dsimp only at H
       have lQ := aM fD
       clear fD
       simp only [Option.some.injEq, Prod.mk.injEq] at H
       obtain ⟨rfl, rfl, rfl, rfl, rfl, rfl, rfl, rfl, rfl, rfl, rfl⟩ := H
       have mK := aW.out
       have mL := aX.out
       have mM := cA11 aC.out
       go_wp2_with (first | ((with_reducible refine gC (f := 142) rfl ?_); refine gL (some 33) Try.func142 #[.agg #[aQ, aE, aG, aH, aI, aJ, aK, aN, a1, .int .i64 4, aA]] ?_; (with_reducible refine (spec_l7Open.calls aQ aE aG aH aI aJ aK aN a1 4 aA eS eT eU eV eW eX eY eZ fA fB fC _ lQ.out).mono ?_); rintro e nK ⟨rfl, hb⟩; refine ⟨_, rfl, ?_⟩; replace aC := aM (bB (g := bA) (o := .cells #[aQ, aE, aG, aH, aI, aJ, aK, aN, a1, .int .i64 4, aA] 79 (0, 0)) (by (with_reducible repeat (first | refine blk_drewN ?_ _ | refine blk_drew ?_ | refine blk_alloc ?_ _)); refine blk_put (cs := #[aQ, aE, aG, aH, aI, aJ, aK, aN, aT, .int .i64 4, aA]) ?_ 8 _ rfl; (with_reducible repeat (first | refine blk_drewN ?_ _ | refine blk_drew ?_ | refine blk_alloc ?_ _)); refine blk_put (cs := #[aQ, aE, aG, aH, aI, aJ, aK, aN, aT, aV, aA]) ?_ 9 _ rfl; (with_reducible repeat (first | refine blk_drewN ?_ _ | refine blk_drew ?_ | refine blk_alloc ?_ _)); exact aC.out) hb); replace aD := aM (bB (fm aD.out) hb); replace HB := rS HB hb; (try clear hb); have mN := cA11 aD.out))
       refine bodyPost_ret (results_cell_row rfl _ _ aZ 79 #[eS, eT, eU, eV, eW, eX, eY, eZ, fA, fB, fC] (0, 0) _ rfl (bm aD.out) Try.underlying79 rfl (by kernel_rfl)) rfl ?_
       exact ⟨xW, bl HB.out⟩
      rw [if_pos bJ] at H
      have hO : (a1 == 3) = true := beq_iff_eq.mpr bJ
      have hU : (a1 != 3) = false := bne_eq_false_iff_eq.mpr bJ
      clear bJ
      obtain ⟨⟨fE, fF, fG, fH, fI, fK, fL, fM, fN, fO, fP⟩, fQ, H⟩ := hB H
      try dsimp only at H
      have lR := aM fQ
      clear fQ
      simp only [Option.some.injEq, Prod.mk.injEq] at H
      obtain ⟨rfl, rfl, rfl, rfl, rfl, rfl, rfl, rfl, rfl, rfl, rfl⟩ := H
      have mO := aW.out
      have mP := aX.out
      have mQ := cA11 aC.out
      go_wp2_with (first | ((with_reducible refine gC (f := 142) rfl ?_); refine gL (some 33) Try.func142 #[.agg #[aQ, aE, aG, aH, aI, aJ, aK, aN, a1, .int .i64 0, aA]] ?_; (with_reducible refine (spec_l7Open.calls aQ aE aG aH aI aJ aK aN a1 0 aA fE fF fG fH fI fK fL fM fN fO fP _ lR.out).mono ?_); rintro e nN ⟨rfl, hb⟩; refine ⟨_, rfl, ?_⟩; replace aC := aM (bB (g := bA) (o := .cells #[aQ, aE, aG, aH, aI, aJ, aK, aN, a1, .int .i64 0, aA] 79 (0, 0)) (by (with_reducible repeat (first | refine blk_drewN ?_ _ | refine blk_drew ?_ | refine blk_alloc ?_ _)); refine blk_put (cs := #[aQ, aE, aG, aH, aI, aJ, aK, aN, aT, .int .i64 0, aA]) ?_ 8 _ rfl; (with_reducible repeat (first | refine blk_drewN ?_ _ | refine blk_drew ?_ | refine blk_alloc ?_ _)); refine blk_put (cs := #[aQ, aE, aG, aH, aI, aJ, aK, aN, aT, .int .i64 4, aA]) ?_ 9 _ rfl; (with_reducible repeat (first | refine blk_drewN ?_ _ | refine blk_drew ?_ | refine blk_alloc ?_ _)); refine blk_put (cs := #[aQ, aE, aG, aH, aI, aJ, aK, aN, aT, aV, aA]) ?_ 9 _ rfl; (with_reducible repeat (first | refine blk_drewN ?_ _ | refine blk_drew ?_ | refine blk_alloc ?_ _)); exact aC.out) hb); replace aD := aM (bB (fm aD.out) hb); replace HB := rS HB hb; (try clear hb); have mR := cA11 aD.out))
      refine bodyPost_ret (results_cell_row rfl _ _ aZ 79 #[fE, fF, fG, fH, fI, fK, fL, fM, fN, fO, fP] (0, 0) _ rfl (bm aD.out) Try.underlying79 rfl (by kernel_rfl)) rfl ?_
      exact ⟨xW, bl HB.out⟩
     replace cG := Bool.eq_false_iff.mpr cG
     subst cG
     replace H := hF H
     by_cases bK : a1 = 3
     case neg =>
      rw [if_neg bK] at H
      have hX : (a1 == 3) = false := beq_eq_false_iff_ne.mpr bK
      have hY : (a1 != 3) = true := bne_iff_ne.mpr bK
      obtain ⟨⟨fS, fT, fU, fV, fW, fX, fY, gA, gB, gG, gH⟩, gJ, H⟩ := hB H
      try dsimp only at H
      have lS := aM gJ
      clear gJ
      simp only [Option.some.injEq, Prod.mk.injEq] at H
      obtain ⟨rfl, rfl, rfl, rfl, rfl, rfl, rfl, rfl, rfl, rfl, rfl⟩ := H
      have mS := aW.out
      have mT := aX.out
      have mU := cA11 aC.out
      go_wp2_with (first | ((with_reducible refine gC (f := 142) rfl ?_); refine gL (some 33) Try.func142 #[.agg #[aQ, aE, aG, aH, aI, aJ, aK, aN, a1, aV, aA]] ?_; (with_reducible refine (spec_l7Open.calls aQ aE aG aH aI aJ aK aN a1 aV aA fS fT fU fV fW fX fY gA gB gG gH _ lS.out).mono ?_); rintro e nO ⟨rfl, hb⟩; refine ⟨_, rfl, ?_⟩; replace aC := aM (bB (g := bA) (o := .cells #[aQ, aE, aG, aH, aI, aJ, aK, aN, a1, aV, aA] 79 (0, 0)) (by (with_reducible repeat (first | refine blk_drewN ?_ _ | refine blk_drew ?_ | refine blk_alloc ?_ _)); refine blk_put (cs := #[aQ, aE, aG, aH, aI, aJ, aK, aN, aT, aV, aA]) ?_ 8 _ rfl; (with_reducible repeat (first | refine blk_drewN ?_ _ | refine blk_drew ?_ | refine blk_alloc ?_ _)); exact aC.out) hb); replace aD := aM (bB (fm aD.out) hb); replace HB := rS HB hb; (try clear hb); have mV := cA11 aD.out))
      refine bodyPost_ret (results_cell_row rfl _ _ aZ 79 #[fS, fT, fU, fV, fW, fX, fY, gA, gB, gG, gH] (0, 0) _ rfl (bm aD.out) Try.underlying79 rfl (by kernel_rfl)) rfl ?_
      exact ⟨xW, bl HB.out⟩
     rw [if_pos bK] at H
     have hX : (a1 == 3) = true := beq_iff_eq.mpr bK
     have hY : (a1 != 3) = false := bne_eq_false_iff_eq.mpr bK
     clear bK
     obtain ⟨⟨gK, gM, gN, gO, gP, gQ, gR, gS, gT, gU, gV⟩, gW, H⟩ := hB H
     try dsimp only at H
     have lT := aM gW
     clear gW
     simp only [Option.some.injEq, Prod.mk.injEq] at H
     obtain ⟨rfl, rfl, rfl, rfl, rfl, rfl, rfl, rfl, rfl, rfl, rfl⟩ := H
     have mW := aW.out
     have mX := aX.out
     have mY := cA11 aC.out
     go_wp2_with (first | ((with_reducible refine gC (f := 142) rfl ?_); refine gL (some 33) Try.func142 #[.agg #[aQ, aE, aG, aH, aI, aJ, aK, aN, a1, .int .i64 0, aA]] ?_; (with_reducible refine (spec_l7Open.calls aQ aE aG aH aI aJ aK aN a1 0 aA gK gM gN gO gP gQ gR gS gT gU gV _ lT.out).mono ?_); rintro e nP ⟨rfl, hb⟩; refine ⟨_, rfl, ?_⟩; replace aC := aM (bB (g := bA) (o := .cells #[aQ, aE, aG, aH, aI, aJ, aK, aN, a1, .int .i64 0, aA] 79 (0, 0)) (by (with_reducible repeat (first | refine blk_drewN ?_ _ | refine blk_drew ?_ | refine blk_alloc ?_ _)); refine blk_put (cs := #[aQ, aE, aG, aH, aI, aJ, aK, aN, aT, .int .i64 0, aA]) ?_ 8 _ rfl; (with_reducible repeat (first | refine blk_drewN ?_ _ | refine blk_drew ?_ | refine blk_alloc ?_ _)); refine blk_put (cs := #[aQ, aE, aG, aH, aI, aJ, aK, aN, aT, aV, aA]) ?_ 9 _ rfl; (with_reducible repeat (first | refine blk_drewN ?_ _ | refine blk_drew ?_ | refine blk_alloc ?_ _)); exact aC.out) hb); replace aD := aM (bB (fm aD.out) hb); replace HB := rS HB hb; (try clear hb); have mZ := cA11 aD.out))
     refine bodyPost_ret (results_cell_row rfl _ _ aZ 79 #[gK, gM, gN, gO, gP, gQ, gR, gS, gT, gU, gV] (0, 0) _ rfl (bm aD.out) Try.underlying79 rfl (by kernel_rfl)) rfl ?_
     exact ⟨xW, bl HB.out⟩

end Go.Proofs.Ythmijfekdeagpaa.PFnRootPorts
