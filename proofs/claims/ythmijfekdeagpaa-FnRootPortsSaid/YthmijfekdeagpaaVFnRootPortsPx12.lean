/- Of the proof of laws.FnRootPorts: a part. No condition beyond what its theorems say. -/
import Derived.Test.YthmijfekdeagpaaVFnRootPortsPx1
import Derived.Test.YthmijfekdeagpaaVFnRootPortsPx11
namespace Go.Proofs.Ythmijfekdeagpaa.PFnRootPorts
open Go.RowKit Go.Proofs.YthmijfekdeagpaaW.PrintWords Go.Proofs.YthmijfekdeagpaaW.PrintLast Go.Proofs.YthmijfekdeagpaaW.PrintMore
attribute [local go_sem] max2_int min2_int max_two min_two max_three min_three max_four min_four   -- for this text's walks alone
set_option linter.unusedVariables false
set_option linter.unusedSimpArgs false

attribute [local go_sem high] eqA73
mutual
def impl_PortOk.j0 : Nat → Bool → Bool → Bool → Int → Int → Int → Int → Int → Int → Int → Int → Bool → Option (Bool)
 | 0, _, _, _, _, _, _, _, _, _, _, _, _ => none
 | k + 1, aT, aJ, aA, aC, aD, aE, aG, aH, aI, aK, aN, aQ => if aT = true then (some false) else (if aA = true then (impl_PortOk.j1 k false aJ aA aC aD aE aG aH aI aK aN aQ) else (if (!(aC == 0) || (!(aD == 0) || (!(aE == 0) || (!(aG == 0))))) = true then (impl_PortOk.j1 k true aJ aA aC aD aE aG aH aI aK aN aQ) else (if aH = 0 then (impl_PortOk.j1 k (aI != 0) aJ aA aC aD aE aG aH aI aK aN aQ) else (impl_PortOk.j1 k true aJ aA aC aD aE aG aH aI aK aN aQ))))
def impl_PortOk.j1 : Nat → Bool → Bool → Bool → Int → Int → Int → Int → Int → Int → Int → Int → Bool → Option (Bool)
 | 0, _, _, _, _, _, _, _, _, _, _, _, _ => none
 | k + 1, aX, aC, aG, aH, aI, aJ, aK, aN, aQ, aA, aD, aE => if aX = true then (some false) else ((impl_inRange.f aA 0 3).bind fun aT => (if aT = true then (if ((aA == 0) == aC) = true then (some false) else ((impl_inRange.f aD 0 4).bind fun aV => (if aV = true then ((impl_Port_isOpenBy.f aC aG aH aI aJ aK aN aQ aA aD aE).bind fun aW => (some (aE == aW))) else (some false)))) else (some false)))
end
def impl_PortOk.f (k : Nat) (aC : Bool) (aD : Bool) (aE : Int) (aG : Int) (aH : Int) (aI : Int) (aJ : Int) (aK : Int) (aN : Int) (aQ : Int) (aA : Bool) : Option (Bool) := if aD = true then (if aC = true then ((impl_VecOk.f aE aG aH aI).bind fun aT => (if aT = true then ((impl_isHops.f aJ).bind fun aV => (if aV = true then ((impl_inRange.f aK 1 3).bind fun aW => (impl_PortOk.j0 k (!aW) aC aD aE aG aH aI aJ aK aN aQ aA)) else (impl_PortOk.j0 k true aC aD aE aG aH aI aJ aK aN aQ aA))) else (impl_PortOk.j0 k true aC aD aE aG aH aI aJ aK aN aQ aA))) else (impl_PortOk.j0 k true aC aD aE aG aH aI aJ aK aN aQ aA)) else (impl_PortOk.j0 k false aC aD aE aG aH aI aJ aK aN aQ aA)
theorem impl_PortOk.mono_l : ∀ k, (∀ y0 y1 y2 y3 y4 y5 y6 y7 y8 y9 aA aC, LeO (impl_PortOk.j0 k y0 y1 y2 y3 y4 y5 y6 y7 y8 y9 aA aC) (impl_PortOk.j0 (k + 1) y0 y1 y2 y3 y4 y5 y6 y7 y8 y9 aA aC)) ∧ (∀ y0 y1 y2 y3 y4 y5 y6 y7 y8 y9 aA aC, LeO (impl_PortOk.j1 k y0 y1 y2 y3 y4 y5 y6 y7 y8 y9 aA aC) (impl_PortOk.j1 (k + 1) y0 y1 y2 y3 y4 y5 y6 y7 y8 y9 aA aC))
 | 0 => ⟨fun _ _ _ _ _ _ _ _ _ _ _ _ r h => by simp [impl_PortOk.j0] at h, fun _ _ _ _ _ _ _ _ _ _ _ _ r h => by simp [impl_PortOk.j1] at h⟩
 | k + 1 => by
  obtain ⟨ih0, ih1⟩ := impl_PortOk.mono_l k
  refine ⟨?_, ?_⟩
  ·intro y0 y1 y2 y3 y4 y5 y6 y7 y8 y9 aA aC
   unfold impl_PortOk.j0
   repeat' first|(with_reducible first|apply ih0|apply ih1|exact LeO.refl _|exact LeO.none _|refine LeO.ite ?_ ?_|refine LeO.bind ?_ (fun _ => ?_))|exact LeO.none _|refine LeO.ite ?_ ?_|refine LeO.bind ?_ (fun _ => ?_)
  ·intro y0 y1 y2 y3 y4 y5 y6 y7 y8 y9 aA aC
   unfold impl_PortOk.j1
   repeat' first|(with_reducible first|apply ih0|apply ih1|exact LeO.refl _|exact LeO.none _|refine LeO.ite ?_ ?_|refine LeO.bind ?_ (fun _ => ?_))|exact LeO.none _|refine LeO.ite ?_ ?_|refine LeO.bind ?_ (fun _ => ?_)
theorem impl_PortOk.mono : ∀ a0 a1 a2 a3 a4 a5 a6 a7 a8 a9 aA k, LeO (impl_PortOk.f k a0 a1 a2 a3 a4 a5 a6 a7 a8 a9 aA) (impl_PortOk.f (k + 1) a0 a1 a2 a3 a4 a5 a6 a7 a8 a9 aA) := by
 intro a0 a1 a2 a3 a4 a5 a6 a7 a8 a9 aA k
 obtain ⟨ih0, ih1⟩ := impl_PortOk.mono_l k
 unfold impl_PortOk.f
 repeat' first|(with_reducible first|apply ih0|apply ih1|exact LeO.refl _|exact LeO.none _|refine LeO.ite ?_ ?_|refine LeO.bind ?_ (fun _ => ?_))|exact LeO.none _|refine LeO.ite ?_ ?_|refine LeO.bind ?_ (fun _ => ?_)
set_option maxHeartbeats 60000000 in
set_option maxRecDepth 100000 in
theorem impl_PortOk.calls (k : Nat) (aD : Bool) (aN : Bool) (aG : Int) (aH : Int) (aI : Int) (aJ : Int) (aE : Int) (aQ : Int) (aC : Int) (aT : Int) (aK : Bool) (r : Bool) (w : World) (h : impl_PortOk.f k aD aN aG aH aI aJ aE aQ aC aT aK = some r) :
  Calls Try.prog 122 #[.agg #[aD, aN, aG, aH, aI, aJ, aE, aQ, aC, aT, aK]] w fun e w' => e = .returned (.bool r) ∧ Below w.heap.size w w' := by
 have mA := Try.underlying79
 have mB := Try.underlying73
 have HB := aM (Below.refl w.heap.size w)
 have H : (if aN = true then (if aD = true then ((impl_VecOk.f aG aH aI aJ).bind fun bK => (if bK = true then ((impl_isHops.f aE).bind fun bL => (if bL = true then ((impl_inRange.f aQ 1 3).bind fun bG => (impl_PortOk.j0 k (!bG) aD aN aG aH aI aJ aE aQ aC aT aK)) else (impl_PortOk.j0 k true aD aN aG aH aI aJ aE aQ aC aT aK))) else (impl_PortOk.j0 k true aD aN aG aH aI aJ aE aQ aC aT aK))) else (impl_PortOk.j0 k true aD aN aG aH aI aJ aE aQ aC aT aK)) else (impl_PortOk.j0 k false aD aN aG aH aI aJ aE aQ aC aT aK)) = some r := h
 clear h
 have gS := aM H
 clear H
 go_enter Try.func122, Try.ntmps122
 go_upto_region 1 with (first | ((with_reducible refine gD (N := 1) rfl ?_); refine bE (N := 1) (cs := #[aD, aN, aG, aH, aI, aJ, aE, aQ, aC, aT, aK]) (t := 79) ?_; intro bH hg w3 hbox hb; have aA := aM (hbox); have lT := gF hg HB; have lU := gF hg HB; replace HB := rS HB hb; clear hb hbox hg))
 (try simp only [Act.put, sA, sZ, sS])
 go_cut [27] (fun lM wc => ∃ (kq : Nat) (bA : Bool), lM = .bool bA ∧ Aside0 (impl_PortOk.j0 kq bA aD aN aG aH aI aJ aE aQ aC aT aK = some r) ∧ Aside0 (kq ≤ k) ∧ Aside0 (wc.heap[bH]? = some (.cells #[aD, aN, aG, aH, aI, aJ, aE, aQ, aC, aT, aK] 79 (0, 0))) ∧ Aside0 (Below w.heap.size w wc))
 case first =>
  have H := gS.out
  clear gS
  by_cases c4 : aN = true
  case neg =>
   replace c4 := Bool.eq_false_iff.mpr c4
   subst c4
   replace H := hF H
   have H' := aM H
   clear H
   have bY := cA11 aA.out
   go_wp2
   go_meet
   case rel => exact ⟨_, (false), xE, H', ⟨by first | omega | exact Nat.le_refl _⟩, ⟨bk aA.out⟩, ⟨bl HB.out⟩⟩
  subst c4
  replace H := hP H rfl
  by_cases c5 : aD = true
  case neg =>
   replace c5 := Bool.eq_false_iff.mpr c5
   subst c5
   replace H := hF H
   have H' := aM H
   clear H
   have bZ := cA11 aA.out
   go_wp2
   go_meet
   case rel => exact ⟨_, (true), xE, H', ⟨by first | omega | exact Nat.le_refl _⟩, ⟨bk aA.out⟩, ⟨bl HB.out⟩⟩
  subst c5
  replace H := hP H rfl
  obtain ⟨bK, hY, H⟩ := hB H
  have A6 := aM hY
  clear hY
  by_cases c7 : bK = true
  case neg =>
   replace c7 := Bool.eq_false_iff.mpr c7
   subst c7
   replace H := hF H
   have H' := aM H
   clear H
   have cA := cA11 aA.out
   go_wp2_with (first | (go_at_call 178; (with_reducible refine (impl_VecOk.calls aG aH aI aJ false _ A6.out).mono ?_); rintro e mD ⟨rfl, hb⟩; replace aA := rB aA hb; replace HB := rS HB hb; (try clear hb)))
   go_meet
   case rel => exact ⟨_, (true), xE, H', ⟨by first | omega | exact Nat.le_refl _⟩, ⟨bk aA.out⟩, ⟨bl HB.out⟩⟩
  subst c7
  replace H := hP H rfl
  obtain ⟨bL, hZ, H⟩ := hB H
  have A8 := aM hZ
  clear hZ
  by_cases c9 : bL = true
  case neg =>
   replace c9 := Bool.eq_false_iff.mpr c9
   subst c9
   replace H := hF H
   have H' := aM H
   clear H
   have cC := cA11 aA.out
   go_wp2_with (first | (go_at_call 178; (with_reducible refine (impl_VecOk.calls aG aH aI aJ true _ A6.out).mono ?_); rintro e mE ⟨rfl, hb⟩; replace aA := rB aA hb; replace HB := rS HB hb; (try clear hb); have cD := cA11 aA.out) | (go_at_call 179; (with_reducible refine (impl_isHops.calls aE false _ A8.out).mono ?_); rintro e w' ⟨rfl, ⟨nd, rfl⟩⟩))
   go_meet
   case rel => exact ⟨_, (true), xE, H', ⟨by first | omega | exact Nat.le_refl _⟩, ⟨bk aA.out⟩, ⟨bl HB.out⟩⟩
  subst c9
  replace H := hP H rfl
  obtain ⟨bG, gT, H⟩ := hB H
  have lN := aM gT
  clear gT
  have H' := aM H
  clear H
  have cE := cA11 aA.out
  go_wp2_with (first | (go_at_call 178; (with_reducible refine (impl_VecOk.calls aG aH aI aJ true _ A6.out).mono ?_); rintro e mF ⟨rfl, hb⟩; replace aA := rB aA hb; replace HB := rS HB hb; (try clear hb); have cG := cA11 aA.out) | (go_at_call 179; (with_reducible refine (impl_isHops.calls aE true _ A8.out).mono ?_); rintro e w' ⟨rfl, ⟨nd, rfl⟩⟩) | (go_at_call 86; (with_reducible refine (impl_inRange.calls aQ 1 3 bG _ lN.out).mono ?_); rintro e w' ⟨rfl, ⟨nd, rfl⟩⟩))
  go_meet
  case rel => exact ⟨_, (!bG), xE, H', ⟨by first | omega | exact Nat.le_refl _⟩, ⟨bk aA.out⟩, ⟨bl HB.out⟩⟩
 case rest =>
  clear gS
  repeat first|clear c1|clear p2|clear c4|clear c5|clear c7|clear c9|clear lO|clear cE|clear cQ|clear bM|clear cR|clear cS|clear cT|clear cU|clear cV|clear cW|clear cX|clear cY|clear cG|clear cC|clear dA|clear bN|clear dB|clear dC|clear dD|clear dE|clear dF|clear dG|clear dH|clear dI|clear cD|clear cA|clear dJ|clear bO|clear dK|clear dL|clear dM|clear dN|clear dO|clear dP|clear dQ|clear dR|clear bZ|clear dS|clear bP|clear dU|clear dV|clear dW|clear dX|clear dY|clear dZ|clear eA|clear eB|clear bY|clear eC|clear bQ|clear eD|clear eE|clear eF|clear eG|clear eH|clear eI|clear eJ|clear eK|clear eL|clear eM|clear bR|clear eN|clear eO|clear eP|clear eQ|clear eR|clear eS|clear eT|clear eU|clear eV|clear eW|clear bT|clear eX|clear eY|clear eZ|clear fA|clear fB|clear fC|clear fD|clear fE|clear fF|clear fG|clear bU|clear fH|clear fI|clear fK|clear fL|clear fM|clear fN|clear fO|clear fP|clear fQ|clear fS|clear bV|clear fT|clear fU|clear fV|clear fW|clear fX|clear fY|clear gA|clear gB|clear gG|clear gH|clear bW|clear gJ|clear gK|clear gM|clear gN|clear gO|clear gP|clear gQ|clear gR
  obtain ⟨kq, bA, rfl, HA, HJ1, aA, HB⟩ := hcut
  cases kq with
  | zero => exact absurd HA.out (by simp [impl_PortOk.j0])
  | succ lP =>
   have H := HA.out
   clear HA
   simp only [impl_PortOk.j0] at H
   by_cases bI : bA = true
   case pos =>
    subst bI
    replace H := hP H rfl
    obtain rfl := Option.some.inj H
    go_wp2
    go_ret
    exact ⟨xW, bl HB.out⟩
   replace bI := Bool.eq_false_iff.mpr bI
   subst bI
   replace H := hF H
   have bX := aM H
   clear H
   go_upto_region 3 with (fail)
   go_cut [46] (fun lQ wc => ∃ (kq : Nat) (aX : Bool), lQ = .bool aX ∧ Aside0 (impl_PortOk.j1 kq aX aD aN aG aH aI aJ aE aQ aC aT aK = some r) ∧ Aside0 (kq ≤ lP) ∧ Aside0 (wc.heap[bH]? = some (.cells #[aD, aN, aG, aH, aI, aJ, aE, aQ, aC, aT, aK] 79 (0, 0))) ∧ Aside0 (Below w.heap.size w wc))
   case first =>
    have H := bX.out
    clear bX
    by_cases bJ : aN = true
    case pos =>
     subst bJ
     replace H := hP H rfl
     have H' := aM H
     clear H
     have gX := cA11 aA.out
     go_wp2
     go_meet
     case rel => exact ⟨_, (false), xE, H', ⟨by have := HJ1.out; first | omega | exact Nat.le_refl _⟩, ⟨bk aA.out⟩, ⟨bl HB.out⟩⟩
    replace bJ := Bool.eq_false_iff.mpr bJ
    subst bJ
    replace H := hF H
    by_cases bD : (!(aG == 0) || (!(aH == 0) || (!(aI == 0) || (!(aJ == 0))))) = true
    case pos =>
     rw [if_pos bD] at H
     have aW : (!(aG == 0) || (!(aH == 0) || (!(aI == 0) || (!(aJ == 0))))) = true := bD
     clear bD
     (first | rw [aW] | (simp only [i64_w, i32_w]; rw [aW]) | skip)
     have H' := aM H
     clear H
     have gY := cA11 aA.out
     go_wp2
     go_meet
     case rel => exact ⟨_, (true), xE, H', ⟨by have := HJ1.out; first | omega | exact Nat.le_refl _⟩, ⟨bk aA.out⟩, ⟨bl HB.out⟩⟩
    rw [if_neg bD] at H
    have aW : (!(aG == 0) || (!(aH == 0) || (!(aI == 0) || (!(aJ == 0))))) = false := by simpa using bD
    clear bD
    (first | rw [aW] | (simp only [i64_w, i32_w]; rw [aW]) | skip)
    by_cases aZ : aE = 0
    case neg =>
     rw [if_neg aZ] at H
     have cH : (aE == 0) = false := beq_eq_false_iff_ne.mpr aZ
     have cK : (aE != 0) = true := bne_iff_ne.mpr aZ
     have H' := aM H
     clear H
     have gZ := cA11 aA.out
     go_wp2
     go_meet
     case rel => exact ⟨_, (true), xE, H', ⟨by have := HJ1.out; first | omega | exact Nat.le_refl _⟩, ⟨bk aA.out⟩, ⟨bl HB.out⟩⟩
    rw [if_pos aZ] at H
    have cH : (aE == 0) = true := beq_iff_eq.mpr aZ
    have cK : (aE != 0) = false := bne_eq_false_iff_eq.mpr aZ
    clear aZ
    have H' := aM H
    clear H
    have hJ := cA11 aA.out
    go_wp2
    go_meet
    case rel => exact ⟨_, ((aQ != 0)), xE, H', ⟨by have := HJ1.out; first | omega | exact Nat.le_refl _⟩, ⟨bk aA.out⟩, ⟨bl HB.out⟩⟩
   case rest =>
    clear bX
    repeat first|clear c1|clear c2|clear p2|clear c4|clear c5|clear c7|clear c9|clear lO|clear bI|clear bJ|clear bD|clear aW|clear aZ|clear cH|clear cK|clear cE|clear cQ|clear bM|clear cR|clear cS|clear cT|clear cU|clear cV|clear cW|clear cX|clear cY|clear cG|clear cC|clear dA|clear bN|clear dB|clear dC|clear dD|clear dE|clear dF|clear dG|clear dH|clear dI|clear cD|clear cA|clear dJ|clear bO|clear dK|clear dL|clear dM|clear dN|clear dO|clear dP|clear dQ|clear dR|clear bZ|clear dS|clear bP|clear dU|clear dV|clear dW|clear dX|clear dY|clear dZ|clear eA|clear eB|clear bY|clear eC|clear bQ|clear eD|clear eE|clear eF|clear eG|clear eH|clear eI|clear eJ|clear eK|clear gX|clear iM|clear iB|clear iN|clear iO|clear iP|clear iQ|clear iR|clear iS|clear iT|clear iU|clear gY|clear iV|clear iC|clear iW|clear iX|clear iY|clear iZ|clear jA|clear jB|clear jC|clear jD|clear hJ|clear jE|clear iD|clear jF|clear jG|clear jH|clear jI|clear jJ|clear jK|clear jL|clear jM|clear gZ|clear jN|clear iE|clear jO|clear jP|clear jQ|clear jR|clear jS|clear jT|clear jU|clear jV|clear eL|clear eM|clear bR|clear eN|clear eO|clear eP|clear eQ|clear eR|clear eS|clear eT|clear eU|clear eV|clear eW|clear bT|clear eX|clear eY|clear eZ|clear fA|clear fB|clear fC|clear fD|clear fE|clear fF|clear fG|clear bU|clear fH|clear fI|clear fK|clear fL|clear fM|clear fN|clear fO|clear fP|clear fQ|clear fS|clear bV|clear fT|clear fU|clear fV|clear fW|clear fX|clear fY|clear gA|clear gB|clear gG|clear gH|clear bW|clear gJ|clear gK|clear gM|clear gN|clear gO|clear gP|clear gQ|clear gR|clear jW|clear jX|clear iF|clear jY|clear jZ|clear kA|clear kC|clear kD|clear kE|clear kG|clear kH|clear kI|clear kJ|clear iG|clear kK|clear kL|clear kM|clear kN|clear kO|clear kP|clear kQ|clear kR|clear kS|clear kT|clear iH|clear kU|clear kV|clear kW|clear kX|clear kY|clear kZ|clear lA|clear lB|clear lC|clear lD|clear iI|clear lE|clear lF|clear lG|clear lH|clear lI|clear lJ|clear lK|clear lL|clear p2
    obtain ⟨kq, aX, rfl, HA, HJ21, aA, HB⟩ := hcut
    cases kq with
    | zero => exact absurd HA.out (by simp [impl_PortOk.j1])
    | succ mC =>
     have H := HA.out
     clear HA
     simp only [impl_PortOk.j1] at H
     by_cases cL : aX = true
     case pos =>
      subst cL
      replace H := hP H rfl
      obtain rfl := Option.some.inj H
      go_wp2
      go_ret
      exact ⟨xW, bl HB.out⟩
     replace cL := Bool.eq_false_iff.mpr cL
     subst cL
     replace H := hF H
     obtain ⟨iJ, gU, H⟩ := hB H
     have cN := aM gU
     clear gU
     by_cases cO : iJ = true
     case neg =>
      replace cO := Bool.eq_false_iff.mpr cO
      subst cO
      replace H := hF H
      obtain rfl := Option.some.inj H
      have lV := cA11 aA.out
      go_wp2_with (first | ((with_reducible refine gC (f := 86) rfl ?_); refine gL (some 49) Try.func86 #[aC, .int .i64 0, .int .i64 3] ?_; (with_reducible refine (impl_inRange.calls aC 0 3 false _ cN.out).mono ?_); rintro e w' ⟨rfl, ⟨nd, rfl⟩⟩; refine ⟨_, rfl, ?_⟩))
      go_ret
      exact ⟨xW, bl HB.out⟩
     subst cO
     replace H := hP H rfl
     by_cases aV : ((aC == 0) == aD) = true
     case pos =>
      rw [if_pos aV] at H
      have hO : ((aC == 0) == aD) = true := aV
      (try (have hU : decide ((aC == 0) = aD) = true := by simpa using aV))
      (try (have hX : ((aC == 0) == aD) = true := by simpa using aV))
      clear aV
      obtain rfl := Option.some.inj H
      have lW := cA11 aA.out
      go_wp2_with (first | ((with_reducible refine gC (f := 86) rfl ?_); refine gL (some 49) Try.func86 #[aC, .int .i64 0, .int .i64 3] ?_; (with_reducible refine (impl_inRange.calls aC 0 3 true _ cN.out).mono ?_); rintro e w' ⟨rfl, ⟨nd, rfl⟩⟩; refine ⟨_, rfl, ?_⟩))
      go_ret
      exact ⟨xW, bl HB.out⟩
     rw [if_neg aV] at H
     have hO : ((aC == 0) == aD) = false := by simpa using aV
     (try (have hU : decide ((aC == 0) = aD) = false := by simpa using aV))
     (try (have hX : ((aC == 0) == aD) = false := by simpa using aV))
     (try (have lX : ¬ ((aC == 0) = aD) := by simpa using aV))
     clear aV
     obtain ⟨iK, gV, H⟩ := hB H
     have iA := aM gV
     clear gV
     by_cases cP : iK = true
     case neg =>
      replace cP := Bool.eq_false_iff.mpr cP
      subst cP
      replace H := hF H
      obtain rfl := Option.some.inj H
      have lY := cA11 aA.out
      go_wp2_with (first | ((with_reducible refine gC (f := 86) rfl ?_); refine gL (some 49) Try.func86 #[aC, .int .i64 0, .int .i64 3] ?_; (with_reducible refine (impl_inRange.calls aC 0 3 true _ cN.out).mono ?_); rintro e w' ⟨rfl, ⟨nd, rfl⟩⟩; refine ⟨_, rfl, ?_⟩) | (go_at_call 86; (with_reducible refine (impl_inRange.calls aT 0 4 false _ iA.out).mono ?_); rintro e w' ⟨rfl, ⟨nd, rfl⟩⟩))
      go_ret
      exact ⟨xW, bl HB.out⟩
     subst cP
     replace H := hP H rfl
     obtain ⟨iL, gW, H⟩ := hB H
     have lR := aM gW
     clear gW
     obtain rfl := Option.some.inj H
     have lZ := cA11 aA.out
     try go_wp2_with (first | ((with_reducible refine gC (f := 86) rfl ?_); refine gL (some 49) Try.func86 #[aC, .int .i64 0, .int .i64 3] ?_; (with_reducible refine (impl_inRange.calls aC 0 3 true _ cN.out).mono ?_); rintro e w' ⟨rfl, ⟨nd, rfl⟩⟩; refine ⟨_, rfl, ?_⟩) | (go_at_call 86; (with_reducible refine (impl_inRange.calls aT 0 4 true _ iA.out).mono ?_); rintro e w' ⟨rfl, ⟨nd, rfl⟩⟩))
     (try (rw [drewN_self wc]; generalize hq_ : World.drewN wc _ = wc; replace aA := qB hq_ (bk aA.out); replace HB := qL hq_ (bl HB.out); clear hq_))
     replace aA := aM (blk_drew aA.out)
     replace HB := aM (below_drew1 HB.out)
     refine start_ (n := 6) (S := fun w' => cS11 w' bH (.bool aD) (.bool aN) (.int .i64 aG) (.int .i64 aH) (.int .i64 aI) (.int .i64 aJ) (.int .i64 aE) (.int .i64 aQ) (.int .i64 aC) (.int .i64 aT) (.bool aK)) (ds := []) (dn 6 0) (by kernel_rfl) rfl rfl ⟨cI aA.out 0, cI aA.out 1, cI aA.out 2, cI aA.out 3, cI aA.out 4, cI aA.out 5, cI aA.out 6, cI aA.out 7, cI aA.out 8, cI aA.out 9, cI aA.out 10⟩ (fun hHeld => ?_)
     generalize wc.drew = mG at aA HB hHeld ⊢
     refine pure_ (i := 0) (N := some 65) (v := ?_) (a' := ?_) #[Y,U,U,U,U,U] rfl rfl (by kernel_rfl) (fun _ _ _ h => h) (Or.inl ⟨by rfl, ?_⟩) ?_ ?_
     rotate_left
     ·intro w'
      go_simp
      with_reducible rfl
     rotate_left
     ·simp only [Act.put, sA, sZ, sS, i64_w, i32_w]
      rfl
     refine take_ (i := 1) (N := some 66) (v := ?_) (a' := ?_) #[Y,Y,U,U,U,U] rfl rfl (by kernel_rfl) (fun _ _ _ h => h) (Or.inl ⟨by rfl, ?_⟩) hHeld ?_ ?_
     rotate_left
     ·rintro w' ⟨s0, s1, s2, s3, s4, s5, s6, s7, s8, s9, lS⟩
      go_simp
      with_reducible rfl
     rotate_left
     ·simp only [Act.put, sA, sZ, sS, i64_w, i32_w]
      rfl
     refine take_ (i := 2) (N := some 67) (v := ?_) (a' := ?_) #[Y,Y,Y,U,U,U] rfl rfl (by kernel_rfl) (fun _ _ _ h => h) (Or.inl ⟨by rfl, ?_⟩) hHeld ?_ ?_
     rotate_left
     ·rintro w' ⟨s0, s1, s2, s3, s4, s5, s6, s7, s8, s9, lS⟩
      go_simp
      with_reducible rfl
     rotate_left
     ·simp only [Act.put, sA, sZ, sS, i64_w, i32_w]
      rfl
     refine one_ (i := 3) (N := some 68) #[Y,Y,Y,Y,U,U] rfl rfl (by kernel_rfl) (by decide) (fun K hK => ?_)
     refine goes_ Try.func180 (by kernel_rfl) rfl #[.agg #[aD, aN, aG, aH, aI, aJ, aE, aQ, aC, aT, aK]] (by rfl) rfl rfl xR ?_
     with_reducible refine (impl_Port_isOpenBy.calls aD aN aG aH aI aJ aE aQ aC aT aK iL _ lR.out).mono ?_
     rintro e mH ⟨rfl, hb⟩
     refine ⟨_, rfl, ?_⟩
     replace aA := rB aA hb
     replace HB := rS HB hb
     (try clear hb)
     (try clear hb2)
     (try clear hk)
     (try clear hi)
     refine hK.out _ _ ⟨cI aA.out 0, cI aA.out 1, cI aA.out 2, cI aA.out 3, cI aA.out 4, cI aA.out 5, cI aA.out 6, cI aA.out 7, cI aA.out 8, cI aA.out 9, cI aA.out 10⟩ (fun hHeld => ?_)
     clear hK K
     refine norm_ (a' := ?_) ?_ ?_
     rotate_left
     ·show Act.put _ (some 68) _ = _
      simp only [Act.put, sA, sZ, sS, i64_w, i32_w]
      rfl
     refine pure_ (i := 4) (N := some 69) (v := ?_) (a' := ?_) #[Y,Y,Y,Y,Y,U] rfl rfl (by kernel_rfl) (fun _ _ _ h => h) (Or.inl ⟨by rfl, ?_⟩) ?_ ?_
     rotate_left
     ·intro w'
      go_simp
      with_reducible rfl
     rotate_left
     ·simp only [Act.put, sA, sZ, sS, i64_w, i32_w]
      rfl
     refine pure_ (i := 5) (N := some 2) (v := ?_) (a' := ?_) #[Y,Y,Y,Y,Y,Y] rfl rfl (by kernel_rfl) (fun _ _ _ h => h) (Or.inl ⟨by rfl, ?_⟩) ?_ ?_
     rotate_left
     ·intro w'
      go_simp
      with_reducible rfl
     rotate_left
     ·simp only [Act.put, sA, sZ, sS, i64_w, i32_w]
      rfl
     refine done_ (by kernel_rfl) ?_
     try go_wp2
     go_ret
     exact ⟨xW, bl HB.out⟩

end Go.Proofs.Ythmijfekdeagpaa.PFnRootPorts
