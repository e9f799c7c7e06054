/- Of the proof of laws.FnRootPorts: a part. No condition beyond what its theorems say. -/
import Derived.Test.YthmijfekdeagpaaVFnRootPortsPx1
import Derived.Test.YthmijfekdeagpaaVFnRootPortsPx4
namespace Go.Proofs.Ythmijfekdeagpaa.PFnRootPorts
open Go.RowKit Go.Proofs.YthmijfekdeagpaaW.PrintWords Go.Proofs.YthmijfekdeagpaaW.PrintLast Go.Proofs.YthmijfekdeagpaaW.PrintMore
attribute [local go_sem] max2_int min2_int max_two min_two max_three min_three max_four min_four   -- for this text's walks alone
set_option linter.unusedVariables false
set_option linter.unusedSimpArgs false

attribute [local go_sem high] eqA73
mutual
def spec_PortOk.j0 : Nat → Bool → Bool → Bool → Int → Int → Int → Int → Int → Int → Int → Int → Bool → Option (Bool)
 | 0, _, _, _, _, _, _, _, _, _, _, _, _ => none
 | k + 1, aZ, aE, aK, aN, aQ, aT, aV, aW, aX, aA, aC, aD => if aZ = true then (some false) else (if aA = 1 then ((spec_l1In.f aA 0 3).bind fun aG => (if aG = true then (if ((aA == 0) == (!aE)) = true then ((spec_l1In.f aC 0 4).bind fun aH => (if aH = true then (some (aD == (aC == 0))) else (some false))) else (some false)) else (some false))) else ((spec_l1In.f aA 0 3).bind fun aI => (if aI = true then (if ((aA == 0) == (!aE)) = true then ((spec_l1In.f aC 0 4).bind fun aJ => (if aJ = true then (if aA = 2 then (some (aD == (aC == 0))) else (some (aD == false))) else (some false))) else (some false)) else (some false))))
def spec_PortOk.j1 : Nat → Bool → Bool → Bool → Int → Int → Int → Int → Int → Int → Int → Int → Bool → Option (Bool)
 | 0, _, _, _, _, _, _, _, _, _, _, _, _ => none
 | k + 1, aZ, aE, aK, aN, aQ, aT, aV, aW, aX, aA, aC, aD => if aZ = true then (some false) else (if aA = 1 then ((spec_l1In.f aA 0 3).bind fun aG => (if aG = true then (if ((aA == 0) == (!aE)) = true then ((spec_l1In.f aC 0 4).bind fun aH => (if aH = true then (some (aD == (aC == 0))) else (some false))) else (some false)) else (some false))) else ((spec_l1In.f aA 0 3).bind fun aI => (if aI = true then (if ((aA == 0) == (!aE)) = true then ((spec_l1In.f aC 0 4).bind fun aJ => (if aJ = true then (if aA = 2 then (some (aD == (aC == 0))) else (some (aD == false))) else (some false))) else (some false)) else (some false))))
end
def spec_PortOk.f (k : Nat) (aJ : Bool) (aK : Bool) (aA : Int) (aC : Int) (aD : Int) (aE : Int) (aG : Int) (aH : Int) (aN : Int) (aQ : Int) (aI : Bool) : Option (Bool) := if aK = true then (if aJ = true then ((spec_VecOk.f aA aC aD aE).bind fun aT => (if aT = true then ((spec_l1In.f aG 0 8).bind fun aV => (if aV = true then ((spec_l1In.f aH 1 3).bind fun aW => (spec_PortOk.j0 k (!aW) aJ aK aA aC aD aE aG aH aN aQ aI)) else (spec_PortOk.j0 k true aJ aK aA aC aD aE aG aH aN aQ aI))) else (spec_PortOk.j0 k true aJ aK aA aC aD aE aG aH aN aQ aI))) else (spec_PortOk.j0 k true aJ aK aA aC aD aE aG aH aN aQ aI)) else (if (!(aA == 0) || (!(aC == 0) || (!(aD == 0) || (!(aE == 0))))) = true then (spec_PortOk.j1 k true aJ aK aA aC aD aE aG aH aN aQ aI) else (if aG = 0 then (spec_PortOk.j1 k (aH != 0) aJ aK aA aC aD aE aG aH aN aQ aI) else (spec_PortOk.j1 k true aJ aK aA aC aD aE aG aH aN aQ aI)))
theorem spec_PortOk.mono_l : ∀ k, (∀ y0 y1 y2 y3 y4 y5 y6 y7 y8 y9 aA aC, LeO (spec_PortOk.j0 k y0 y1 y2 y3 y4 y5 y6 y7 y8 y9 aA aC) (spec_PortOk.j0 (k + 1) y0 y1 y2 y3 y4 y5 y6 y7 y8 y9 aA aC)) ∧ (∀ y0 y1 y2 y3 y4 y5 y6 y7 y8 y9 aA aC, LeO (spec_PortOk.j1 k y0 y1 y2 y3 y4 y5 y6 y7 y8 y9 aA aC) (spec_PortOk.j1 (k + 1) y0 y1 y2 y3 y4 y5 y6 y7 y8 y9 aA aC))
 | 0 => ⟨fun _ _ _ _ _ _ _ _ _ _ _ _ r h => by simp [spec_PortOk.j0] at h, fun _ _ _ _ _ _ _ _ _ _ _ _ r h => by simp [spec_PortOk.j1] at h⟩
 | k + 1 => by
  obtain ⟨ih0, ih1⟩ := spec_PortOk.mono_l k
  refine ⟨?_, ?_⟩
  ·intro y0 y1 y2 y3 y4 y5 y6 y7 y8 y9 aA aC
   unfold spec_PortOk.j0
   repeat' first|(with_reducible first|apply ih0|apply ih1|exact LeO.refl _|exact LeO.none _|refine LeO.ite ?_ ?_|refine LeO.bind ?_ (fun _ => ?_))|exact LeO.none _|refine LeO.ite ?_ ?_|refine LeO.bind ?_ (fun _ => ?_)
  ·intro y0 y1 y2 y3 y4 y5 y6 y7 y8 y9 aA aC
   unfold spec_PortOk.j1
   repeat' first|(with_reducible first|apply ih0|apply ih1|exact LeO.refl _|exact LeO.none _|refine LeO.ite ?_ ?_|refine LeO.bind ?_ (fun _ => ?_))|exact LeO.none _|refine LeO.ite ?_ ?_|refine LeO.bind ?_ (fun _ => ?_)
theorem spec_PortOk.mono : ∀ a0 a1 a2 a3 a4 a5 a6 a7 a8 a9 aA k, LeO (spec_PortOk.f k a0 a1 a2 a3 a4 a5 a6 a7 a8 a9 aA) (spec_PortOk.f (k + 1) a0 a1 a2 a3 a4 a5 a6 a7 a8 a9 aA) := by
 intro a0 a1 a2 a3 a4 a5 a6 a7 a8 a9 aA k
 obtain ⟨ih0, ih1⟩ := spec_PortOk.mono_l k
 unfold spec_PortOk.f
 repeat' first|(with_reducible first|apply ih0|apply ih1|exact LeO.refl _|exact LeO.none _|refine LeO.ite ?_ ?_|refine LeO.bind ?_ (fun _ => ?_))|exact LeO.none _|refine LeO.ite ?_ ?_|refine LeO.bind ?_ (fun _ => ?_)
set_option maxHeartbeats 60000000 in
set_option maxRecDepth 100000 in
theorem spec_PortOk.calls (k : Nat) (aD : Bool) (aT : Bool) (aH : Int) (aI : Int) (aJ : Int) (aK : Int) (aG : Int) (aN : Int) (aA : Int) (aE : Int) (aQ : Bool) (r : Bool) (w : World) (h : spec_PortOk.f k aD aT aH aI aJ aK aG aN aA aE aQ = some r) :
  Calls Try.prog 123 #[.agg #[aD, aT, aH, aI, aJ, aK, aG, aN, aA, aE, aQ]] w fun e w' => e = .returned (.bool r) ∧ Below w.heap.size w w' := by
 have uX := Try.underlying79
 have uY := Try.underlying73
 have HB := aM (Below.refl w.heap.size w)
 have H : (if aT = true then (if aD = true then ((spec_VecOk.f aH aI aJ aK).bind fun bY => (if bY = true then ((spec_l1In.f aG 0 8).bind fun bZ => (if bZ = true then ((spec_l1In.f aN 1 3).bind fun bN => (spec_PortOk.j0 k (!bN) aD aT aH aI aJ aK aG aN aA aE aQ)) else (spec_PortOk.j0 k true aD aT aH aI aJ aK aG aN aA aE aQ))) else (spec_PortOk.j0 k true aD aT aH aI aJ aK aG aN aA aE aQ))) else (spec_PortOk.j0 k true aD aT aH aI aJ aK aG aN aA aE aQ)) else (if (!(aH == 0) || (!(aI == 0) || (!(aJ == 0) || (!(aK == 0))))) = true then (spec_PortOk.j1 k true aD aT aH aI aJ aK aG aN aA aE aQ) else (if aG = 0 then (spec_PortOk.j1 k (aN != 0) aD aT aH aI aJ aK aG aN aA aE aQ) else (spec_PortOk.j1 k true aD aT aH aI aJ aK aG aN aA aE aQ)))) = some r := h
 clear h
 by_cases c2 : aT = true
 case pos =>
  subst c2
  replace H := hP H rfl
  have fQ := aM H
  clear H
  go_enter Try.func123, Try.ntmps123
  go_upto_region 2 with (first | ((with_reducible refine gD (N := 1) rfl ?_); refine bE (N := 1) (cs := #[aD, .bool true, aH, aI, aJ, aK, aG, aN, aA, aE, aQ]) (t := 79) ?_; intro bO hg w4 hbox hb; have aC := aM (hbox); have gK := gF hg HB; have gM := gF hg HB; replace HB := rS HB hb; clear hb hbox hg; have fS := cA11 aC.out))
  (try simp only [Act.put, sA, sZ, sS])
  go_cut [26] (fun uG wc => ∃ (kq : Nat) (bJ : Bool), uG = .bool bJ ∧ Aside0 (spec_PortOk.j0 kq bJ aD true aH aI aJ aK aG aN aA aE aQ = some r) ∧ Aside0 (kq ≤ k) ∧ Aside0 (wc.heap[bO]? = some (.cells #[aD, .bool true, aH, aI, aJ, aK, aG, aN, aA, aE, aQ] 79 (0, 0))) ∧ Aside0 (Below w.heap.size w wc))
  case first =>
   have H := fQ.out
   clear fQ
   by_cases c6 : aD = true
   case neg =>
    replace c6 := Bool.eq_false_iff.mpr c6
    subst c6
    replace H := hF H
    have H' := aM H
    clear H
    have cL := cA11 aC.out
    go_wp2
    go_meet
    case rel => exact ⟨_, (true), xE, H', ⟨by first | omega | exact Nat.le_refl _⟩, ⟨bk aC.out⟩, ⟨bl HB.out⟩⟩
   subst c6
   replace H := hP H rfl
   obtain ⟨bY, iI, H⟩ := hB H
   have A7 := aM iI
   clear iI
   by_cases c8 : bY = true
   case neg =>
    replace c8 := Bool.eq_false_iff.mpr c8
    subst c8
    replace H := hF H
    have H' := aM H
    clear H
    have cN := cA11 aC.out
    go_wp2_with (first | (go_at_call 181; (with_reducible refine (spec_VecOk.calls aH aI aJ aK false _ A7.out).mono ?_); rintro e vA ⟨rfl, hb⟩; replace aC := rB aC hb; replace HB := rS HB hb; (try clear hb)))
    go_meet
    case rel => exact ⟨_, (true), xE, H', ⟨by first | omega | exact Nat.le_refl _⟩, ⟨bk aC.out⟩, ⟨bl HB.out⟩⟩
   subst c8
   replace H := hP H rfl
   obtain ⟨bZ, iJ, H⟩ := hB H
   have A9 := aM iJ
   clear iJ
   by_cases bP : bZ = true
   case neg =>
    replace bP := Bool.eq_false_iff.mpr bP
    subst bP
    replace H := hF H
    have H' := aM H
    clear H
    have gN := cA11 aC.out
    go_wp2_with (first | (go_at_call 181; (with_reducible refine (spec_VecOk.calls aH aI aJ aK true _ A7.out).mono ?_); rintro e vB ⟨rfl, hb⟩; replace aC := rB aC hb; replace HB := rS HB hb; (try clear hb); have gO := cA11 aC.out) | (go_at_call 80; (with_reducible refine (spec_l1In.calls aG 0 8 false _ A9.out).mono ?_); rintro e w' ⟨rfl, ⟨nd, rfl⟩⟩))
    go_meet
    case rel => exact ⟨_, (true), xE, H', ⟨by first | omega | exact Nat.le_refl _⟩, ⟨bk aC.out⟩, ⟨bl HB.out⟩⟩
   subst bP
   replace H := hP H rfl
   obtain ⟨bN, fT, H⟩ := hB H
   have uH := aM fT
   clear fT
   have H' := aM H
   clear H
   have gP := cA11 aC.out
   go_wp2_with (first | (go_at_call 181; (with_reducible refine (spec_VecOk.calls aH aI aJ aK true _ A7.out).mono ?_); rintro e vC ⟨rfl, hb⟩; replace aC := rB aC hb; replace HB := rS HB hb; (try clear hb); have gQ := cA11 aC.out) | (go_at_call 80; (with_reducible refine (spec_l1In.calls aG 0 8 true _ A9.out).mono ?_); rintro e w' ⟨rfl, ⟨nd, rfl⟩⟩) | (go_at_call 80; (with_reducible refine (spec_l1In.calls aN 1 3 bN _ uH.out).mono ?_); rintro e w' ⟨rfl, ⟨nd, rfl⟩⟩))
   go_meet
   case rel => exact ⟨_, (!bN), xE, H', ⟨by first | omega | exact Nat.le_refl _⟩, ⟨bk aC.out⟩, ⟨bl HB.out⟩⟩
  case rest =>
   clear fQ
   repeat first|clear c1|clear c2|clear p2|clear c6|clear c8|clear bP|clear uI|clear gP|clear jU|clear iM|clear jV|clear jW|clear jX|clear jY|clear jZ|clear kA|clear kC|clear kD|clear gQ|clear gN|clear kE|clear iN|clear kG|clear kH|clear kI|clear kJ|clear kK|clear kL|clear kM|clear kN|clear gO|clear cN|clear dI|clear cA|clear dJ|clear dK|clear dL|clear dM|clear dN|clear dO|clear dP|clear dQ|clear cL|clear dR|clear cC|clear dS|clear dU|clear dV|clear dW|clear dX|clear dY|clear dZ|clear eA|clear fS|clear eB|clear eC|clear cD|clear eD|clear eE|clear eF|clear eG|clear eH|clear eI|clear eJ|clear eK|clear eL|clear eM|clear cE|clear eN|clear eO|clear eP|clear eQ|clear eR|clear eS|clear eT|clear eU|clear eV|clear eW|clear cG|clear eX|clear eY|clear eZ|clear fA|clear fB|clear fC|clear fD|clear fE|clear fF|clear fG|clear cH|clear fH|clear fI|clear fK|clear fL|clear fM|clear fN|clear fO|clear fP
   obtain ⟨kq, bJ, rfl, HA, HJ2, aC, HB⟩ := hcut
   cases kq with
   | zero => exact absurd HA.out (by simp [spec_PortOk.j0])
   | succ vD =>
    have H := HA.out
    clear HA
    simp only [spec_PortOk.j0] at H
    by_cases bQ : bJ = true
    case pos =>
     subst bQ
     replace H := hP H rfl
     obtain rfl := Option.some.inj H
     go_wp2
     go_ret
     exact ⟨xW, bl HB.out⟩
    replace bQ := Bool.eq_false_iff.mpr bQ
    subst bQ
    replace H := hF H
    by_cases bG : aA = 1
    case pos =>
     rw [if_pos bG] at H
     have cO : (aA == 1) = true := beq_iff_eq.mpr bG
     have cP : (aA != 1) = false := bne_eq_false_iff_eq.mpr bG
     clear bG
     obtain ⟨iO, fU, H⟩ := hB H
     have cQ := aM fU
     clear fU
     by_cases bR : iO = true
     case neg =>
      replace bR := Bool.eq_false_iff.mpr bR
      subst bR
      replace H := hF H
      obtain rfl := Option.some.inj H
      have gR := cA11 aC.out
      go_wp2_with (first | ((with_reducible refine gC (f := 80) rfl ?_); refine gL (some 51) Try.func80 #[aA, .int .i64 0, .int .i64 3] ?_; (with_reducible refine (spec_l1In.calls aA 0 3 false _ cQ.out).mono ?_); rintro e w' ⟨rfl, ⟨nd, rfl⟩⟩; refine ⟨_, rfl, ?_⟩))
      go_ret
      exact ⟨xW, bl HB.out⟩
     subst bR
     replace H := hP H rfl
     by_cases aV : ((aA == 0) == (!aD)) = true
     case neg =>
      rw [if_neg aV] at H
      have cR : ((aA == 0) == (!aD)) = false := by simpa using aV
      (try (have cS : decide ((aA == 0) = (!aD)) = false := by simpa using aV))
      (try (have cT : ((aA == 0) == (!aD)) = false := by simpa using aV))
      (try (have uK : ¬ ((aA == 0) = (!aD)) := by simpa using aV))
      clear aV
      obtain rfl := Option.some.inj H
      have gS := cA11 aC.out
      go_wp2_with (first | ((with_reducible refine gC (f := 80) rfl ?_); refine gL (some 51) Try.func80 #[aA, .int .i64 0, .int .i64 3] ?_; (with_reducible refine (spec_l1In.calls aA 0 3 true _ cQ.out).mono ?_); rintro e w' ⟨rfl, ⟨nd, rfl⟩⟩; refine ⟨_, rfl, ?_⟩))
      go_ret
      exact ⟨xW, bl HB.out⟩
     rw [if_pos aV] at H
     have cR : ((aA == 0) == (!aD)) = true := aV
     (try (have cS : decide ((aA == 0) = (!aD)) = true := by simpa using aV))
     (try (have cT : ((aA == 0) == (!aD)) = true := by simpa using aV))
     clear aV
     obtain ⟨iP, fV, H⟩ := hB H
     have iK := aM fV
     clear fV
     by_cases bT : iP = true
     case pos =>
      subst bT
      replace H := hP H rfl
      obtain rfl := Option.some.inj H
      have gT := cA11 aC.out
      go_wp2_with (first | ((with_reducible refine gC (f := 80) rfl ?_); refine gL (some 51) Try.func80 #[aA, .int .i64 0, .int .i64 3] ?_; (with_reducible refine (spec_l1In.calls aA 0 3 true _ cQ.out).mono ?_); rintro e w' ⟨rfl, ⟨nd, rfl⟩⟩; refine ⟨_, rfl, ?_⟩) | (go_at_call 80; (with_reducible refine (spec_l1In.calls aE 0 4 true _ iK.out).mono ?_); rintro e w' ⟨rfl, ⟨nd, rfl⟩⟩))
      go_ret
      exact ⟨xW, bl HB.out⟩
     replace bT := Bool.eq_false_iff.mpr bT
     subst bT
     replace H := hF H
     obtain rfl := Option.some.inj H
     have gU := cA11 aC.out
     go_wp2_with (first | ((with_reducible refine gC (f := 80) rfl ?_); refine gL (some 51) Try.func80 #[aA, .int .i64 0, .int .i64 3] ?_; (with_reducible refine (spec_l1In.calls aA 0 3 true _ cQ.out).mono ?_); rintro e w' ⟨rfl, ⟨nd, rfl⟩⟩; refine ⟨_, rfl, ?_⟩) | (go_at_call 80; (with_reducible refine (spec_l1In.calls aE 0 4 false _ iK.out).mono ?_); rintro e w' ⟨rfl, ⟨nd, rfl⟩⟩))
     go_ret
     exact ⟨xW, bl HB.out⟩
    rw [if_neg bG] at H
    have cO : (aA == 1) = false := beq_eq_false_iff_ne.mpr bG
    have cP : (aA != 1) = true := bne_iff_ne.mpr bG
    obtain ⟨iQ, fW, H⟩ := hB H
    have bU := aM fW
    clear fW
    by_cases bV : iQ = true
    case neg =>
     replace bV := Bool.eq_false_iff.mpr bV
     subst bV
     replace H := hF H
     obtain rfl := Option.some.inj H
     have gV := cA11 aC.out
     go_wp2_with (first | ((with_reducible refine gC (f := 80) rfl ?_); refine gL (some 51) Try.func80 #[aA, .int .i64 0, .int .i64 3] ?_; (with_reducible refine (spec_l1In.calls aA 0 3 false _ bU.out).mono ?_); rintro e w' ⟨rfl, ⟨nd, rfl⟩⟩; refine ⟨_, rfl, ?_⟩))
     go_ret
     exact ⟨xW, bl HB.out⟩
    subst bV
    replace H := hP H rfl
    by_cases aW : ((aA == 0) == (!aD)) = true
    case neg =>
     rw [if_neg aW] at H
     have cU : ((aA == 0) == (!aD)) = false := by simpa using aW
     (try (have cV : decide ((aA == 0) = (!aD)) = false := by simpa using aW))
     (try (have cW : ((aA == 0) == (!aD)) = false := by simpa using aW))
     (try (have uL : ¬ ((aA == 0) = (!aD)) := by simpa using aW))
     clear aW
     obtain rfl := Option.some.inj H
     have gW := cA11 aC.out
     go_wp2_with (first | ((with_reducible refine gC (f := 80) rfl ?_); refine gL (some 51) Try.func80 #[aA, .int .i64 0, .int .i64 3] ?_; (with_reducible refine (spec_l1In.calls aA 0 3 true _ bU.out).mono ?_); rintro e w' ⟨rfl, ⟨nd, rfl⟩⟩; refine ⟨_, rfl, ?_⟩))
     go_ret
     exact ⟨xW, bl HB.out⟩
    rw [if_pos aW] at H
    have cU : ((aA == 0) == (!aD)) = true := aW
    (try (have cV : decide ((aA == 0) = (!aD)) = true := by simpa using aW))
    (try (have cW : ((aA == 0) == (!aD)) = true := by simpa using aW))
    clear aW
    obtain ⟨iR, fX, H⟩ := hB H
    have fY := aM fX
    clear fX
    by_cases bW : iR = true
    case neg =>
     replace bW := Bool.eq_false_iff.mpr bW
     subst bW
     replace H := hF H
     obtain rfl := Option.some.inj H
     have gX := cA11 aC.out
     go_wp2_with (first | ((with_reducible refine gC (f := 80) rfl ?_); refine gL (some 51) Try.func80 #[aA, .int .i64 0, .int .i64 3] ?_; (with_reducible refine (spec_l1In.calls aA 0 3 true _ bU.out).mono ?_); rintro e w' ⟨rfl, ⟨nd, rfl⟩⟩; refine ⟨_, rfl, ?_⟩) | (go_at_call 80; (with_reducible refine (spec_l1In.calls aE 0 4 false _ fY.out).mono ?_); rintro e w' ⟨rfl, ⟨nd, rfl⟩⟩))
     go_ret
     exact ⟨xW, bl HB.out⟩
    subst bW
    replace H := hP H rfl
    by_cases bH : aA = 2
    case neg =>
     rw [if_neg bH] at H
     have cX : (aA == 2) = false := beq_eq_false_iff_ne.mpr bH
     have cY : (aA != 2) = true := bne_iff_ne.mpr bH
     obtain rfl := Option.some.inj H
     have gY := cA11 aC.out
     go_wp2_with (first | ((with_reducible refine gC (f := 80) rfl ?_); refine gL (some 51) Try.func80 #[aA, .int .i64 0, .int .i64 3] ?_; (with_reducible refine (spec_l1In.calls aA 0 3 true _ bU.out).mono ?_); rintro e w' ⟨rfl, ⟨nd, rfl⟩⟩; refine ⟨_, rfl, ?_⟩) | (go_at_call 80; (with_reducible refine (spec_l1In.calls aE 0 4 true _ fY.out).mono ?_); rintro e w' ⟨rfl, ⟨nd, rfl⟩⟩))
     go_ret
     exact ⟨xW, bl HB.out⟩
    rw [if_pos bH] at H
    have cX : (aA == 2) = true := beq_iff_eq.mpr bH
    have cY : (aA != 2) = false := bne_eq_false_iff_eq.mpr bH
    clear bH
    obtain rfl := Option.some.inj H
    have gZ := cA11 aC.out
    go_wp2_with (first | ((with_reducible refine gC (f := 80) rfl ?_); refine gL (some 51) Try.func80 #[aA, .int .i64 0, .int .i64 3] ?_; (with_reducible refine (spec_l1In.calls aA 0 3 true _ bU.out).mono ?_); rintro e w' ⟨rfl, ⟨nd, rfl⟩⟩; refine ⟨_, rfl, ?_⟩) | (go_at_call 80; (with_reducible refine (spec_l1In.calls aE 0 4 true _ fY.out).mono ?_); rintro e w' ⟨rfl, ⟨nd, rfl⟩⟩))
    go_ret
    exact ⟨xW, bl HB.out⟩
 replace c2 := Bool.eq_false_iff.mpr c2
 subst c2
 replace H := hF H
 have cK := aM H
 clear H
 go_enter Try.func123, Try.ntmps123
 go_upto_region 4 with (first | ((with_reducible refine gD (N := 1) rfl ?_); refine bE (N := 1) (cs := #[aD, .bool false, aH, aI, aJ, aK, aG, aN, aA, aE, aQ]) (t := 79) ?_; intro bO hg vE hbox hb; have aC := aM (hbox); have gK := gF hg HB; have gM := gF hg HB; replace HB := rS HB hb; clear hb hbox hg; have hJ := cA11 aC.out))
 (try simp only [Act.put, sA, sZ, sS])
 go_cut [40] (fun uJ wc => ∃ (kq : Nat) (bD : Bool), uJ = .bool bD ∧ Aside0 (spec_PortOk.j1 kq bD aD false aH aI aJ aK aG aN aA aE aQ = some r) ∧ Aside0 (kq ≤ k) ∧ Aside0 (wc.heap[bO]? = some (.cells #[aD, .bool false, aH, aI, aJ, aK, aG, aN, aA, aE, aQ] 79 (0, 0))) ∧ Aside0 (Below w.heap.size w wc))
 case first =>
  have H := cK.out
  clear cK
  by_cases bK : (!(aH == 0) || (!(aI == 0) || (!(aJ == 0) || (!(aK == 0))))) = true
  case pos =>
   rw [if_pos bK] at H
   have bA : (!(aH == 0) || (!(aI == 0) || (!(aJ == 0) || (!(aK == 0))))) = true := bK
   clear bK
   (first | rw [bA] | (simp only [i64_w, i32_w]; rw [bA]) | skip)
   have H' := aM H
   clear H
   have hO := cA11 aC.out
   go_wp2
   go_meet
   case rel => exact ⟨_, (true), xE, H', ⟨by first | omega | exact Nat.le_refl _⟩, ⟨bk aC.out⟩, ⟨bl HB.out⟩⟩
  rw [if_neg bK] at H
  have bA : (!(aH == 0) || (!(aI == 0) || (!(aJ == 0) || (!(aK == 0))))) = false := by simpa using bK
  clear bK
  (first | rw [bA] | (simp only [i64_w, i32_w]; rw [bA]) | skip)
  by_cases bI : aG = 0
  case neg =>
   rw [if_neg bI] at H
   have dA : (aG == 0) = false := beq_eq_false_iff_ne.mpr bI
   have dB : (aG != 0) = true := bne_iff_ne.mpr bI
   have H' := aM H
   clear H
   have hU := cA11 aC.out
   go_wp2
   go_meet
   case rel => exact ⟨_, (true), xE, H', ⟨by first | omega | exact Nat.le_refl _⟩, ⟨bk aC.out⟩, ⟨bl HB.out⟩⟩
  rw [if_pos bI] at H
  have dA : (aG == 0) = true := beq_iff_eq.mpr bI
  have dB : (aG != 0) = false := bne_eq_false_iff_eq.mpr bI
  clear bI
  have H' := aM H
  clear H
  have hX := cA11 aC.out
  go_wp2
  go_meet
  case rel => exact ⟨_, ((aN != 0)), xE, H', ⟨by first | omega | exact Nat.le_refl _⟩, ⟨bk aC.out⟩, ⟨bl HB.out⟩⟩
 case rest =>
  clear cK
  repeat first|clear c1|clear c2|clear p2|clear c3|clear c4|clear c8|clear uI|clear bQ|clear bG|clear cO|clear cP|clear bR|clear aV|clear cR|clear cS|clear cT|clear bT|clear bV|clear aW|clear cU|clear cV|clear cW|clear bW|clear bH|clear cX|clear cY|clear bK|clear bA|clear bI|clear dA|clear dB|clear cN|clear dI|clear cA|clear dJ|clear dK|clear dL|clear dM|clear dN|clear dO|clear dP|clear dQ|clear cL|clear dR|clear cC|clear dS|clear dU|clear dV|clear dW|clear dX|clear dY|clear dZ|clear eA|clear gT|clear kO|clear iS|clear kP|clear kQ|clear kR|clear kS|clear kT|clear kU|clear kV|clear kW|clear gU|clear kX|clear iT|clear kY|clear kZ|clear lA|clear lB|clear lC|clear lD|clear lE|clear lF|clear gS|clear lG|clear iU|clear lH|clear lI|clear lJ|clear lK|clear lL|clear lM|clear lN|clear lO|clear gR|clear lP|clear iV|clear lQ|clear lR|clear lS|clear lT|clear lU|clear lV|clear lW|clear lX|clear gZ|clear lY|clear iW|clear lZ|clear mA|clear mB|clear mC|clear mD|clear mE|clear mF|clear mG|clear gY|clear mH|clear iX|clear mI|clear mJ|clear mK|clear mL|clear mM|clear mN|clear mO|clear mP|clear gX|clear mQ|clear iY|clear mR|clear mS|clear mT|clear mU|clear mV|clear mW|clear mX|clear mY|clear gW|clear mZ|clear iZ|clear nA|clear nB|clear nC|clear nD|clear nE|clear nF|clear nI|clear nJ|clear gV|clear nK|clear jA|clear nN|clear nO|clear nP|clear nQ|clear nR|clear nS|clear nT|clear nV|clear hJ|clear hO|clear nX|clear jB|clear nZ|clear oA|clear oB|clear oC|clear oD|clear oE|clear oF|clear oG|clear hX|clear oH|clear jC|clear oI|clear oJ|clear oK|clear oL|clear oM|clear oO|clear oP|clear oQ|clear hU|clear oR|clear jD|clear oS|clear oT|clear oU|clear oV|clear oW|clear oX|clear oY|clear oZ|clear fS|clear eB|clear eC|clear cD|clear eD|clear eE|clear eF|clear eG|clear eH|clear eI|clear eJ|clear eK|clear eL|clear eM|clear cE|clear eN|clear eO|clear eP|clear eQ|clear eR|clear eS|clear eT|clear eU|clear eV|clear eW|clear cG|clear eX|clear eY|clear eZ|clear fA|clear fB|clear fC|clear fD|clear fE|clear fF|clear fG|clear cH|clear fH|clear fI|clear fK|clear fL|clear fM|clear fN|clear fO|clear fP|clear pA|clear pB|clear jE|clear pC|clear pD|clear pE|clear pF|clear pG|clear pH|clear pI|clear pJ|clear pK|clear pL|clear jF|clear pM|clear pN|clear pO|clear pP|clear pQ|clear pR|clear pS|clear pT|clear pV|clear pW|clear jG|clear pX|clear pZ|clear qA|clear qC|clear qD|clear qE|clear qF|clear qG|clear qH|clear qI|clear jH|clear qJ|clear qM|clear qN|clear qO|clear qP|clear qQ|clear qS|clear qT|clear qV|clear qW|clear jI|clear qX|clear qY|clear qZ|clear rA|clear rC|clear rD|clear rE|clear rF|clear rG|clear rH|clear jJ|clear rI|clear rJ|clear rK|clear rL|clear rM|clear rN|clear rO|clear rQ|clear rR|clear rT|clear jK|clear rV|clear rW|clear rX|clear rY|clear rZ|clear sB|clear sC|clear sD|clear sE|clear sF|clear jL|clear sG|clear sH|clear sI|clear sJ|clear sK|clear sL|clear sM|clear sN|clear sO|clear sP|clear jM|clear sQ|clear sR|clear sT|clear sU|clear sV|clear sW|clear sX|clear sY|clear tA|clear tB|clear jN|clear tC|clear tD|clear tE|clear tF|clear tG|clear tH|clear tI|clear tJ|clear tK|clear tL|clear jO|clear tM|clear tN|clear tO|clear tP|clear tQ|clear tR|clear tS|clear tT|clear tV|clear tW|clear jP|clear tX|clear tZ|clear uA|clear uB|clear uC|clear uD|clear uE|clear uF
  obtain ⟨kq, bD, rfl, HA, HJ42, aC, HB⟩ := hcut
  cases kq with
  | zero => exact absurd HA.out (by simp [spec_PortOk.j1])
  | succ uZ =>
   have H := HA.out
   clear HA
   simp only [spec_PortOk.j1] at H
   by_cases dC : bD = true
   case pos =>
    subst dC
    replace H := hP H rfl
    obtain rfl := Option.some.inj H
    go_wp2
    go_ret
    exact ⟨xW, bl HB.out⟩
   replace dC := Bool.eq_false_iff.mpr dC
   subst dC
   replace H := hF H
   by_cases bL : aA = 1
   case pos =>
    rw [if_pos bL] at H
    have hY : (aA == 1) = true := beq_iff_eq.mpr bL
    have hZ : (aA != 1) = false := bne_eq_false_iff_eq.mpr bL
    clear bL
    obtain ⟨jQ, gA, H⟩ := hB H
    have dD := aM gA
    clear gA
    by_cases dE : jQ = true
    case neg =>
     replace dE := Bool.eq_false_iff.mpr dE
     subst dE
     replace H := hF H
     obtain rfl := Option.some.inj H
     have uM := cA11 aC.out
     go_wp2_with (first | ((with_reducible refine gC (f := 80) rfl ?_); refine gL (some 51) Try.func80 #[aA, .int .i64 0, .int .i64 3] ?_; (with_reducible refine (spec_l1In.calls aA 0 3 false _ dD.out).mono ?_); rintro e w' ⟨rfl, ⟨nd, rfl⟩⟩; refine ⟨_, rfl, ?_⟩))
     go_ret
     exact ⟨xW, bl HB.out⟩
    subst dE
    replace H := hP H rfl
    by_cases aX : ((aA == 0) == (!aD)) = true
    case neg =>
     rw [if_neg aX] at H
     have iA : ((aA == 0) == (!aD)) = false := by simpa using aX
     (try (have iB : decide ((aA == 0) = (!aD)) = false := by simpa using aX))
     (try (have iC : ((aA == 0) == (!aD)) = false := by simpa using aX))
     (try (have uN : ¬ ((aA == 0) = (!aD)) := by simpa using aX))
     clear aX
     obtain rfl := Option.some.inj H
     have uO := cA11 aC.out
     go_wp2_with (first | ((with_reducible refine gC (f := 80) rfl ?_); refine gL (some 51) Try.func80 #[aA, .int .i64 0, .int .i64 3] ?_; (with_reducible refine (spec_l1In.calls aA 0 3 true _ dD.out).mono ?_); rintro e w' ⟨rfl, ⟨nd, rfl⟩⟩; refine ⟨_, rfl, ?_⟩))
     go_ret
     exact ⟨xW, bl HB.out⟩
    rw [if_pos aX] at H
    have iA : ((aA == 0) == (!aD)) = true := aX
    (try (have iB : decide ((aA == 0) = (!aD)) = true := by simpa using aX))
    (try (have iC : ((aA == 0) == (!aD)) = true := by simpa using aX))
    clear aX
    obtain ⟨jR, gB, H⟩ := hB H
    have iL := aM gB
    clear gB
    by_cases dF : jR = true
    case pos =>
     subst dF
     replace H := hP H rfl
     obtain rfl := Option.some.inj H
     have uP := cA11 aC.out
     go_wp2_with (first | ((with_reducible refine gC (f := 80) rfl ?_); refine gL (some 51) Try.func80 #[aA, .int .i64 0, .int .i64 3] ?_; (with_reducible refine (spec_l1In.calls aA 0 3 true _ dD.out).mono ?_); rintro e w' ⟨rfl, ⟨nd, rfl⟩⟩; refine ⟨_, rfl, ?_⟩) | (go_at_call 80; (with_reducible refine (spec_l1In.calls aE 0 4 true _ iL.out).mono ?_); rintro e w' ⟨rfl, ⟨nd, rfl⟩⟩))
     go_ret
     exact ⟨xW, bl HB.out⟩
    replace dF := Bool.eq_false_iff.mpr dF
    subst dF
    replace H := hF H
    obtain rfl := Option.some.inj H
    have uQ := cA11 aC.out
    go_wp2_with (first | ((with_reducible refine gC (f := 80) rfl ?_); refine gL (some 51) Try.func80 #[aA, .int .i64 0, .int .i64 3] ?_; (with_reducible refine (spec_l1In.calls aA 0 3 true _ dD.out).mono ?_); rintro e w' ⟨rfl, ⟨nd, rfl⟩⟩; refine ⟨_, rfl, ?_⟩) | (go_at_call 80; (with_reducible refine (spec_l1In.calls aE 0 4 false _ iL.out).mono ?_); rintro e w' ⟨rfl, ⟨nd, rfl⟩⟩))
    go_ret
    exact ⟨xW, bl HB.out⟩
   rw [if_neg bL] at H
   have hY : (aA == 1) = false := beq_eq_false_iff_ne.mpr bL
   have hZ : (aA != 1) = true := bne_iff_ne.mpr bL
   obtain ⟨jS, gG, H⟩ := hB H
   have bX := aM gG
   clear gG
   by_cases dG : jS = true
   case neg =>
    replace dG := Bool.eq_false_iff.mpr dG
    subst dG
    replace H := hF H
    obtain rfl := Option.some.inj H
    have uR := cA11 aC.out
    go_wp2_with (first | ((with_reducible refine gC (f := 80) rfl ?_); refine gL (some 51) Try.func80 #[aA, .int .i64 0, .int .i64 3] ?_; (with_reducible refine (spec_l1In.calls aA 0 3 false _ bX.out).mono ?_); rintro e w' ⟨rfl, ⟨nd, rfl⟩⟩; refine ⟨_, rfl, ?_⟩))
    go_ret
    exact ⟨xW, bl HB.out⟩
   subst dG
   replace H := hP H rfl
   by_cases aZ : ((aA == 0) == (!aD)) = true
   case neg =>
    rw [if_neg aZ] at H
    have iD : ((aA == 0) == (!aD)) = false := by simpa using aZ
    (try (have iE : decide ((aA == 0) = (!aD)) = false := by simpa using aZ))
    (try (have iF : ((aA == 0) == (!aD)) = false := by simpa using aZ))
    (try (have uS : ¬ ((aA == 0) = (!aD)) := by simpa using aZ))
    clear aZ
    obtain rfl := Option.some.inj H
    have uT := cA11 aC.out
    go_wp2_with (first | ((with_reducible refine gC (f := 80) rfl ?_); refine gL (some 51) Try.func80 #[aA, .int .i64 0, .int .i64 3] ?_; (with_reducible refine (spec_l1In.calls aA 0 3 true _ bX.out).mono ?_); rintro e w' ⟨rfl, ⟨nd, rfl⟩⟩; refine ⟨_, rfl, ?_⟩))
    go_ret
    exact ⟨xW, bl HB.out⟩
   rw [if_pos aZ] at H
   have iD : ((aA == 0) == (!aD)) = true := aZ
   (try (have iE : decide ((aA == 0) = (!aD)) = true := by simpa using aZ))
   (try (have iF : ((aA == 0) == (!aD)) = true := by simpa using aZ))
   clear aZ
   obtain ⟨jT, gH, H⟩ := hB H
   have gJ := aM gH
   clear gH
   by_cases dH : jT = true
   case neg =>
    replace dH := Bool.eq_false_iff.mpr dH
    subst dH
    replace H := hF H
    obtain rfl := Option.some.inj H
    have uU := cA11 aC.out
    go_wp2_with (first | ((with_reducible refine gC (f := 80) rfl ?_); refine gL (some 51) Try.func80 #[aA, .int .i64 0, .int .i64 3] ?_; (with_reducible refine (spec_l1In.calls aA 0 3 true _ bX.out).mono ?_); rintro e w' ⟨rfl, ⟨nd, rfl⟩⟩; refine ⟨_, rfl, ?_⟩) | (go_at_call 80; (with_reducible refine (spec_l1In.calls aE 0 4 false _ gJ.out).mono ?_); rintro e w' ⟨rfl, ⟨nd, rfl⟩⟩))
    go_ret
    exact ⟨xW, bl HB.out⟩
   subst dH
   replace H := hP H rfl
   by_cases bM : aA = 2
   case neg =>
    rw [if_neg bM] at H
    have iG : (aA == 2) = false := beq_eq_false_iff_ne.mpr bM
    have iH : (aA != 2) = true := bne_iff_ne.mpr bM
    obtain rfl := Option.some.inj H
    have uV := cA11 aC.out
    go_wp2_with (first | ((with_reducible refine gC (f := 80) rfl ?_); refine gL (some 51) Try.func80 #[aA, .int .i64 0, .int .i64 3] ?_; (with_reducible refine (spec_l1In.calls aA 0 3 true _ bX.out).mono ?_); rintro e w' ⟨rfl, ⟨nd, rfl⟩⟩; refine ⟨_, rfl, ?_⟩) | (go_at_call 80; (with_reducible refine (spec_l1In.calls aE 0 4 true _ gJ.out).mono ?_); rintro e w' ⟨rfl, ⟨nd, rfl⟩⟩))
    go_ret
    exact ⟨xW, bl HB.out⟩
   rw [if_pos bM] at H
   have iG : (aA == 2) = true := beq_iff_eq.mpr bM
   have iH : (aA != 2) = false := bne_eq_false_iff_eq.mpr bM
   clear bM
   obtain rfl := Option.some.inj H
   have uW := cA11 aC.out
   go_wp2_with (first | ((with_reducible refine gC (f := 80) rfl ?_); refine gL (some 51) Try.func80 #[aA, .int .i64 0, .int .i64 3] ?_; (with_reducible refine (spec_l1In.calls aA 0 3 true _ bX.out).mono ?_); rintro e w' ⟨rfl, ⟨nd, rfl⟩⟩; refine ⟨_, rfl, ?_⟩) | (go_at_call 80; (with_reducible refine (spec_l1In.calls aE 0 4 true _ gJ.out).mono ?_); rintro e w' ⟨rfl, ⟨nd, rfl⟩⟩))
   go_ret
   exact ⟨xW, bl HB.out⟩

end Go.Proofs.Ythmijfekdeagpaa.PFnRootPorts
