/- Of the proof of laws.FnRootPorts: a part. No condition beyond what its theorems say. -/
import Derived.Test.YthmijfekdeagpaaVFnRootPortsPx6
namespace Go.Proofs.Ythmijfekdeagpaa.PFnRootPorts
open Go.RowKit Go.Proofs.YthmijfekdeagpaaW.PrintWords Go.Proofs.YthmijfekdeagpaaW.PrintLast Go.Proofs.YthmijfekdeagpaaW.PrintMore
attribute [local go_sem] max2_int min2_int max_two min_two max_three min_three max_four min_four   -- for this text's walks alone
set_option linter.unusedVariables false
set_option linter.unusedSimpArgs false

def spec_Claim.j0 : Nat → Int → Bool → Bool → Bool → Int → Int → Int → Int → Int → Int → Int → Int → Bool → Int → Int → Int → Int → Option (Bool × Bool × Int × Int × Int × Int × Int × Int × Int × Int × Bool)
 | 0, _, _, _, _, _, _, _, _, _, _, _, _, _, _, _, _, _ => none
 | k + 1, x2, bA, aA, aK, aN, aQ, aG, aH, aW, aX, aC, aD, aE, aT, aV, aI, aJ => if bA = true then (some (aA, aK, aN, aQ, aG, aH, aW, aX, aC, aD, aE)) else (if aK = true then ((spec_Better.f aN aQ aG aH aT aV aI aJ).bind fun aZ => (if aZ = true then (if aG = aI then (if aH = aJ then (some (aA, true, aT, aV, aI, aJ, x2, 3, aC, aD, aE)) else (some (aA, aK, aN, aQ, aG, aH, aW, aX, aC, aD, aE))) else (some (aA, aK, aN, aQ, aG, aH, aW, aX, aC, aD, aE))) else (some (aA, true, aT, aV, aI, aJ, x2, 3, aC, aD, aE)))) else (some (aA, true, aT, aV, aI, aJ, x2, 3, aC, aD, aE)))
def spec_Claim.f (k : Nat) (aC : Bool) (aD : Bool) (aE : Int) (aG : Int) (aH : Int) (aI : Int) (aJ : Int) (aK : Int) (aN : Int) (aQ : Int) (aA : Bool) (aT : Int) (aV : Int) (aW : Int) (aX : Int) (a2 : Int) : Option (Bool × Bool × Int × Int × Int × Int × Int × Int × Int × Int × Bool) := (spec_PortOk.f k aC aD aE aG aH aI aJ aK aN aQ aA).bind fun aZ => (if aZ = true then (if aC = true then ((spec_VecOk.f aT aV aW aX).bind fun bA => (if bA = true then ((spec_l1In.f a2 0 8).bind fun bD => (spec_Claim.j0 k a2 (!bD) aC aD aE aG aH aI aJ aK aN aQ aA aT aV aW aX)) else (spec_Claim.j0 k a2 true aC aD aE aG aH aI aJ aK aN aQ aA aT aV aW aX))) else (spec_Claim.j0 k a2 true aC aD aE aG aH aI aJ aK aN aQ aA aT aV aW aX)) else (spec_Claim.j0 k a2 true aC aD aE aG aH aI aJ aK aN aQ aA aT aV aW aX))
theorem spec_Claim.mono_l : ∀ k, (∀ y0 y1 y2 y3 y4 y5 y6 y7 y8 y9 aA aC aD aE aG aH aI, LeO (spec_Claim.j0 k y0 y1 y2 y3 y4 y5 y6 y7 y8 y9 aA aC aD aE aG aH aI) (spec_Claim.j0 (k + 1) y0 y1 y2 y3 y4 y5 y6 y7 y8 y9 aA aC aD aE aG aH aI))
 | 0 => fun _ _ _ _ _ _ _ _ _ _ _ _ _ _ _ _ _ r h => by simp [spec_Claim.j0] at h
 | k + 1 => by
  have ih0 := spec_Claim.mono_l k
  ·intro y0 y1 y2 y3 y4 y5 y6 y7 y8 y9 aA aC aD aE aG aH aI
   unfold spec_Claim.j0
   repeat' first|(with_reducible first|apply ih0|apply spec_PortOk.mono|exact LeO.refl _|exact LeO.none _|refine LeO.ite ?_ ?_|refine LeO.bind ?_ (fun _ => ?_))|exact LeO.none _|refine LeO.ite ?_ ?_|refine LeO.bind ?_ (fun _ => ?_)
theorem spec_Claim.mono : ∀ a0 a1 a2 a3 a4 a5 a6 a7 a8 a9 aA aC aD aE aG aH k, LeO (spec_Claim.f k a0 a1 a2 a3 a4 a5 a6 a7 a8 a9 aA aC aD aE aG aH) (spec_Claim.f (k + 1) a0 a1 a2 a3 a4 a5 a6 a7 a8 a9 aA aC aD aE aG aH) := by
 intro a0 a1 a2 a3 a4 a5 a6 a7 a8 a9 aA aC aD aE aG aH k
 have ih0 := spec_Claim.mono_l k
 unfold spec_Claim.f
 repeat' first|(with_reducible first|apply ih0|apply spec_PortOk.mono|exact LeO.refl _|exact LeO.none _|refine LeO.ite ?_ ?_|refine LeO.bind ?_ (fun _ => ?_))|exact LeO.none _|refine LeO.ite ?_ ?_|refine LeO.bind ?_ (fun _ => ?_)
set_option maxHeartbeats 60000000 in
set_option maxRecDepth 100000 in
theorem spec_Claim.calls (k : Nat) (bG : Bool) (bH : Bool) (aI : Int) (aJ : Int) (aG : Int) (aH : Int) (bA : Int) (bD : Int) (aK : Int) (aN : Int) (aE : Bool) (bK : Int) (bL : Int) (aQ : Int) (aT : Int) (a2 : Int) (r1 : Bool) (r2 : Bool) (r3 : Int) (r4 : Int) (r5 : Int) (r6 : Int) (r7 : Int) (r8 : Int) (r9 : Int) (bW : Int) (bX : Bool) (w : World) (h : spec_Claim.f k bG bH aI aJ aG aH bA bD aK aN aE bK bL aQ aT a2 = some (r1, r2, r3, r4, r5, r6, r7, r8, r9, bW, bX)) :
  Calls Try.prog 175 #[.agg #[bG, bH, aI, aJ, aG, aH, bA, bD, aK, aN, aE], .agg #[bK, bL, aQ, aT], a2] w fun e w' => e = .returned (.agg #[r1, r2, r3, r4, r5, r6, r7, r8, r9, bW, bX]) ∧ Below w.heap.size w w' := by
 have lB := Try.underlying79
 have lC := Try.underlying73
 have HB := aM (Below.refl w.heap.size w)
 have H : ((spec_PortOk.f k bG bH aI aJ aG aH bA bD aK aN aE).bind fun bU => (if bU = true then (if bG = true then ((spec_VecOk.f bK bL aQ aT).bind fun bV => (if bV = true then ((spec_l1In.f a2 0 8).bind fun bQ => (spec_Claim.j0 k a2 (!bQ) bG bH aI aJ aG aH bA bD aK aN aE bK bL aQ aT)) else (spec_Claim.j0 k a2 true bG bH aI aJ aG aH bA bD aK aN aE bK bL aQ aT))) else (spec_Claim.j0 k a2 true bG bH aI aJ aG aH bA bD aK aN aE bK bL aQ aT)) else (spec_Claim.j0 k a2 true bG bH aI aJ aG aH bA bD aK aN aE bK bL aQ aT))) = some (r1, r2, r3, r4, r5, r6, r7, r8, r9, bW, bX) := h
 clear h
 have cD := aM H
 clear H
 go_enter Try.func175, Try.ntmps175
 go_upto_region 1 with (first | ((with_reducible refine gD (N := 3) rfl ?_); refine bE (N := 3) (cs := #[bG, bH, aI, aJ, aG, aH, bA, bD, aK, aN, aE]) (t := 79) ?_; intro cK hg w5 hbox hb; have aA := aM (hbox); have gW := gF hg HB; have gX := gF hg HB; replace HB := rS HB hb; clear hb hbox hg) | ((with_reducible refine gD (N := 4) rfl ?_); refine bE (N := 4) (cs := #[bK, bL, aQ, aT]) (t := 73) ?_; intro cL hg w6 hbox hb; have aC := aM (hbox); have gY := gF hg HB; have gZ := gF hg HB; have aV := nM hg aA; have aW := nH hg aA; replace aA := rB aA hb; replace HB := rS HB hb; clear hb hbox hg) | ((with_reducible refine gD (N := 6) rfl ?_); refine bE (N := 6) (cs := #[.bool false, .bool false, .int .i64 0, .int .i64 0, .int .i64 0, .int .i64 0, .int .i64 0, .int .i64 0, .int .i64 0, .int .i64 0, .bool false]) (t := 79) ?_; intro bM hg w7 hbox hb; have aD := aM (hbox); have hJ := gF hg HB; have hO := gF hg HB; have aX := nM hg aA; have aZ := nH hg aA; have bI := nM hg aC; have bJ := nH hg aC; replace aA := rB aA hb; replace aC := rB aC hb; replace HB := rS HB hb; clear hb hbox hg))
 (try simp only [Act.put, sA, sZ, sS])
 go_cut [24] (fun gU wc => ∃ (kq : Nat) (bN : Bool), gU = .bool bN ∧ Aside0 (spec_Claim.j0 kq a2 bN bG bH aI aJ aG aH bA bD aK aN aE bK bL aQ aT = some (r1, r2, r3, r4, r5, r6, r7, r8, r9, bW, bX)) ∧ Aside0 (kq ≤ k) ∧ Aside0 (wc.heap[cK]? = some (.cells #[bG, bH, aI, aJ, aG, aH, bA, bD, aK, aN, aE] 79 (0, 0))) ∧ Aside0 (wc.heap[cL]? = some (.cells #[bK, bL, aQ, aT] 73 (0, 0))) ∧ Aside0 (wc.heap[bM]? = some (.cells #[.bool false, .bool false, .int .i64 0, .int .i64 0, .int .i64 0, .int .i64 0, .int .i64 0, .int .i64 0, .int .i64 0, .int .i64 0, .bool false] 79 (0, 0))) ∧ Aside0 (Below w.heap.size w wc))
 case first =>
  have H := cD.out
  clear cD
  obtain ⟨bU, dB, H⟩ := hB H
  have A8 := aM dB
  clear dB
  by_cases c9 : bU = true
  case neg =>
   replace c9 := Bool.eq_false_iff.mpr c9
   subst c9
   replace H := hF H
   have H' := aM H
   clear H
   have hU := aV.out
   have hX := aW.out
   have hY := aX.out
   have hZ := aZ.out
   have cN := cA11 aA.out
   go_wp2_with (first | ((with_reducible refine gC (f := 123) rfl ?_); refine gL (some 8) Try.func123 #[.agg #[bG, bH, aI, aJ, aG, aH, bA, bD, aK, aN, aE]] ?_; (with_reducible refine (spec_PortOk.calls k bG bH aI aJ aG aH bA bD aK aN aE false _ A8.out).mono ?_); rintro e lD ⟨rfl, hb⟩; refine ⟨_, rfl, ?_⟩; replace aA := rB aA hb; replace aC := rB aC hb; replace aD := rB aD hb; replace HB := rS HB hb; (try clear hb)))
   go_meet
   case rel => exact ⟨_, (true), xE, H', ⟨by first | omega | exact Nat.le_refl _⟩, ⟨bk aA.out⟩, ⟨bk aC.out⟩, ⟨bk aD.out⟩, ⟨bl HB.out⟩⟩
  subst c9
  replace H := hP H rfl
  by_cases bR : bG = true
  case neg =>
   replace bR := Bool.eq_false_iff.mpr bR
   subst bR
   replace H := hF H
   have H' := aM H
   clear H
   have iA := aV.out
   have iB := aW.out
   have iC := aX.out
   have iD := aZ.out
   have cO := cA11 aA.out
   go_wp2_with (first | ((with_reducible refine gC (f := 123) rfl ?_); refine gL (some 8) Try.func123 #[.agg #[.bool false, bH, aI, aJ, aG, aH, bA, bD, aK, aN, aE]] ?_; (with_reducible refine (spec_PortOk.calls k false bH aI aJ aG aH bA bD aK aN aE true _ A8.out).mono ?_); rintro e lE ⟨rfl, hb⟩; refine ⟨_, rfl, ?_⟩; replace aA := rB aA hb; replace aC := rB aC hb; replace aD := rB aD hb; replace HB := rS HB hb; (try clear hb); have cP := cA11 aA.out))
   go_meet
   case rel => exact ⟨_, (true), xE, H', ⟨by first | omega | exact Nat.le_refl _⟩, ⟨bk aA.out⟩, ⟨bk aC.out⟩, ⟨bk aD.out⟩, ⟨bl HB.out⟩⟩
  subst bR
  replace H := hP H rfl
  obtain ⟨bV, cE, H⟩ := hB H
  have dC := aM cE
  clear cE
  by_cases bT : bV = true
  case neg =>
   replace bT := Bool.eq_false_iff.mpr bT
   subst bT
   replace H := hF H
   have H' := aM H
   clear H
   have iE := aV.out
   have iF := aW.out
   have iG := aX.out
   have iH := aZ.out
   have cQ := cA11 aA.out
   go_wp2_with (first | ((with_reducible refine gC (f := 123) rfl ?_); refine gL (some 8) Try.func123 #[.agg #[.bool true, bH, aI, aJ, aG, aH, bA, bD, aK, aN, aE]] ?_; (with_reducible refine (spec_PortOk.calls k true bH aI aJ aG aH bA bD aK aN aE true _ A8.out).mono ?_); rintro e lF ⟨rfl, hb⟩; refine ⟨_, rfl, ?_⟩; replace aA := rB aA hb; replace aC := rB aC hb; replace aD := rB aD hb; replace HB := rS HB hb; (try clear hb); have cR := cA11 aA.out; have iI := bI.out; have iJ := bJ.out; have cS := cA4 aC.out) | (go_at_call 181; (with_reducible refine (spec_VecOk.calls bK bL aQ aT false _ dC.out).mono ?_); rintro e lG ⟨rfl, hb⟩; replace aA := rB aA hb; replace aC := rB aC hb; replace aD := rB aD hb; replace HB := rS HB hb; (try clear hb)))
   go_meet
   case rel => exact ⟨_, (true), xE, H', ⟨by first | omega | exact Nat.le_refl _⟩, ⟨bk aA.out⟩, ⟨bk aC.out⟩, ⟨bk aD.out⟩, ⟨bl HB.out⟩⟩
  subst bT
  replace H := hP H rfl
  obtain ⟨bQ, cG, H⟩ := hB H
  have gV := aM cG
  clear cG
  have H' := aM H
  clear H
  have iK := aV.out
  have iL := aW.out
  have iM := aX.out
  have iN := aZ.out
  have cT := cA11 aA.out
  go_wp2_with (first | ((with_reducible refine gC (f := 123) rfl ?_); refine gL (some 8) Try.func123 #[.agg #[.bool true, bH, aI, aJ, aG, aH, bA, bD, aK, aN, aE]] ?_; (with_reducible refine (spec_PortOk.calls k true bH aI aJ aG aH bA bD aK aN aE true _ A8.out).mono ?_); rintro e lH ⟨rfl, hb⟩; refine ⟨_, rfl, ?_⟩; replace aA := rB aA hb; replace aC := rB aC hb; replace aD := rB aD hb; replace HB := rS HB hb; (try clear hb); have cU := cA11 aA.out; have iO := bI.out; have iP := bJ.out; have cV := cA4 aC.out) | (go_at_call 181; (with_reducible refine (spec_VecOk.calls bK bL aQ aT true _ dC.out).mono ?_); rintro e lI ⟨rfl, hb⟩; replace aA := rB aA hb; replace aC := rB aC hb; replace aD := rB aD hb; replace HB := rS HB hb; (try clear hb)) | (go_at_call 80; (with_reducible refine (spec_l1In.calls a2 0 8 bQ _ gV.out).mono ?_); rintro e w' ⟨rfl, ⟨nd, rfl⟩⟩))
  go_meet
  case rel => exact ⟨_, (!bQ), xE, H', ⟨by first | omega | exact Nat.le_refl _⟩, ⟨bk aA.out⟩, ⟨bk aC.out⟩, ⟨bk aD.out⟩, ⟨bl HB.out⟩⟩
 case rest =>
  clear cD
  repeat first|clear c1|clear c2|clear p2|clear c3|clear c9|clear bR|clear bT|clear lJ|clear lK|clear lL|clear lM|clear lN|clear lO|clear lP|clear lQ|clear lR|clear lS|clear lT|clear cT|clear dM|clear dD|clear dN|clear dO|clear dP|clear dQ|clear dR|clear dS|clear dU|clear dV|clear cU|clear cV|clear cQ|clear dW|clear dE|clear dX|clear dY|clear dZ|clear eA|clear eB|clear eC|clear eD|clear eE|clear cR|clear cS|clear cO|clear eF|clear dF|clear eG|clear eH|clear eI|clear eJ|clear eK|clear eL|clear eM|clear eN|clear cP|clear cN|clear eO|clear dG|clear eP|clear eQ|clear eR|clear eS|clear eT|clear eU|clear eV|clear eW|clear eX|clear eY|clear dH|clear eZ|clear fA|clear fB|clear fC|clear fD|clear fE|clear fF|clear fG|clear fH|clear fI|clear dI|clear fK|clear fL|clear fM|clear fN|clear fO|clear fP|clear fQ|clear fS|clear fT|clear fU|clear dJ|clear fV|clear fW|clear fX|clear fY|clear gA|clear gB|clear gG|clear gH|clear gJ|clear gK|clear dK|clear gM|clear gN|clear gO|clear gP|clear gQ|clear gR|clear gS|clear gT
  obtain ⟨kq, bN, rfl, HA, HJ3, aA, aC, aD, HB⟩ := hcut
  cases kq with
  | zero => exact absurd HA.out (by simp [spec_Claim.j0])
  | succ lU =>
   have H := HA.out
   clear HA
   simp only [spec_Claim.j0] at H
   by_cases bY : bN = true
   case pos =>
    subst bY
    replace H := hP H rfl
    simp only [Option.some.injEq, Prod.mk.injEq] at H
    obtain ⟨rfl, rfl, rfl, rfl, rfl, rfl, rfl, rfl, rfl, rfl, rfl⟩ := H
    have iQ := aV.out
    have iR := aW.out
    have iS := aX.out
    have iT := aZ.out
    have iU := cA11 aA.out
    have iV := bJ.out
    have iW := bI.out
    have iX := cA11 aD.out
    go_wp2
    refine bodyPost_ret (results_cell_row rfl _ _ bM 79 #[bG, bH, aI, aJ, aG, aH, bA, bD, aK, aN, aE] (0, 0) _ rfl (bm aD.out) Try.underlying79 rfl (by kernel_rfl)) rfl ?_
    exact ⟨xW, bl HB.out⟩
   replace bY := Bool.eq_false_iff.mpr bY
   subst bY
   replace H := hF H
   by_cases bZ : bH = true
   case neg =>
    replace bZ := Bool.eq_false_iff.mpr bZ
    subst bZ
    replace H := hF H
    simp only [Option.some.injEq, Prod.mk.injEq] at H
    obtain ⟨rfl, rfl, rfl, rfl, rfl, rfl, rfl, rfl, rfl, rfl, rfl⟩ := H
    have iY := aV.out
    have iZ := aW.out
    have jA := aX.out
    have jB := aZ.out
    have jC := cA11 aA.out
    have jD := bI.out
    have jE := bJ.out
    have jF := cA4 aC.out
    have jG := cA11 aD.out
    go_wp2
    refine bodyPost_ret (results_cell_row rfl _ _ bM 79 #[bG, .bool true, bK, bL, aQ, aT, a2, .int .i64 3, aK, aN, aE] (0, 0) _ rfl (bm aD.out) Try.underlying79 rfl (by kernel_rfl)) rfl ?_
    exact ⟨xW, bl HB.out⟩
   subst bZ
   replace H := hP H rfl
   obtain ⟨dL, cH, H⟩ := hB H
   have cA := aM cH
   clear cH
   by_cases cC : dL = true
   case neg =>
    replace cC := Bool.eq_false_iff.mpr cC
    subst cC
    replace H := hF H
    simp only [Option.some.injEq, Prod.mk.injEq] at H
    obtain ⟨rfl, rfl, rfl, rfl, rfl, rfl, rfl, rfl, rfl, rfl, rfl⟩ := H
    have jH := aV.out
    have jI := aW.out
    have jJ := aX.out
    have jK := aZ.out
    have jL := cA11 aA.out
    have jM := bI.out
    have jN := bJ.out
    have jO := cA4 aC.out
    go_wp2_with (first | (go_at_call 68; (with_reducible refine (spec_Better.calls aI aJ aG aH bK bL aQ aT false _ cA.out).mono ?_); rintro e lV ⟨rfl, hb⟩; replace aA := rB aA hb; replace aC := rB aC hb; replace aD := rB aD hb; replace HB := rS HB hb; (try clear hb); have jP := cA11 aA.out; have jQ := cA4 aC.out; have jR := cA11 aD.out))
    refine bodyPost_ret (results_cell_row rfl _ _ bM 79 #[bG, .bool true, bK, bL, aQ, aT, a2, .int .i64 3, aK, aN, aE] (0, 0) _ rfl (bm aD.out) Try.underlying79 rfl (by kernel_rfl)) rfl ?_
    exact ⟨xW, bl HB.out⟩
   subst cC
   replace H := hP H rfl
   by_cases bO : aG = aQ
   case neg =>
    rw [if_neg bO] at H
    have cW : (aG == aQ) = false := beq_eq_false_iff_ne.mpr bO
    have cX : (aG != aQ) = true := bne_iff_ne.mpr bO
    simp only [Option.some.injEq, Prod.mk.injEq] at H
    obtain ⟨rfl, rfl, rfl, rfl, rfl, rfl, rfl, rfl, rfl, rfl, rfl⟩ := H
    have jS := aV.out
    have jT := aW.out
    have jU := aX.out
    have jV := aZ.out
    have jW := cA11 aA.out
    have jX := bI.out
    have jY := bJ.out
    have jZ := cA4 aC.out
    go_wp2_with (first | (go_at_call 68; (with_reducible refine (spec_Better.calls aI aJ aG aH bK bL aQ aT true _ cA.out).mono ?_); rintro e lW ⟨rfl, hb⟩; replace aA := rB aA hb; replace aC := rB aC hb; replace aD := rB aD hb; replace HB := rS HB hb; (try clear hb); have kA := cA11 aA.out; have kC := cA4 aC.out; have kD := cA11 aD.out))
    refine bodyPost_ret (results_cell_row rfl _ _ bM 79 #[bG, .bool true, aI, aJ, aG, aH, bA, bD, aK, aN, aE] (0, 0) _ rfl (bm aD.out) Try.underlying79 rfl (by kernel_rfl)) rfl ?_
    exact ⟨xW, bl HB.out⟩
   rw [if_pos bO] at H
   have cW : (aG == aQ) = true := beq_iff_eq.mpr bO
   have cX : (aG != aQ) = false := bne_eq_false_iff_eq.mpr bO
   clear bO
   by_cases bP : aH = aT
   case neg =>
    rw [if_neg bP] at H
    have cY : (aH == aT) = false := beq_eq_false_iff_ne.mpr bP
    have dA : (aH != aT) = true := bne_iff_ne.mpr bP
    simp only [Option.some.injEq, Prod.mk.injEq] at H
    obtain ⟨rfl, rfl, rfl, rfl, rfl, rfl, rfl, rfl, rfl, rfl, rfl⟩ := H
    have kE := aV.out
    have kG := aW.out
    have kH := aX.out
    have kI := aZ.out
    have kJ := cA11 aA.out
    have kK := bI.out
    have kL := bJ.out
    have kM := cA4 aC.out
    go_wp2_with (first | (go_at_call 68; (with_reducible refine (spec_Better.calls aI aJ aG aH bK bL aQ aT true _ cA.out).mono ?_); rintro e lX ⟨rfl, hb⟩; replace aA := rB aA hb; replace aC := rB aC hb; replace aD := rB aD hb; replace HB := rS HB hb; (try clear hb); have kN := cA11 aA.out; have kO := cA4 aC.out; have kP := cA11 aD.out))
    refine bodyPost_ret (results_cell_row rfl _ _ bM 79 #[bG, .bool true, aI, aJ, aG, aH, bA, bD, aK, aN, aE] (0, 0) _ rfl (bm aD.out) Try.underlying79 rfl (by kernel_rfl)) rfl ?_
    exact ⟨xW, bl HB.out⟩
   rw [if_pos bP] at H
   have cY : (aH == aT) = true := beq_iff_eq.mpr bP
   have dA : (aH != aT) = false := bne_eq_false_iff_eq.mpr bP
   clear bP
   simp only [Option.some.injEq, Prod.mk.injEq] at H
   obtain ⟨rfl, rfl, rfl, rfl, rfl, rfl, rfl, rfl, rfl, rfl, rfl⟩ := H
   have kQ := aV.out
   have kR := aW.out
   have kS := aX.out
   have kT := aZ.out
   have kU := cA11 aA.out
   have kV := bI.out
   have kW := bJ.out
   have kX := cA4 aC.out
   go_wp2_with (first | (go_at_call 68; (with_reducible refine (spec_Better.calls aI aJ aG aH bK bL aQ aT true _ cA.out).mono ?_); rintro e lY ⟨rfl, hb⟩; replace aA := rB aA hb; replace aC := rB aC hb; replace aD := rB aD hb; replace HB := rS HB hb; (try clear hb); have kY := cA11 aA.out; have kZ := cA4 aC.out; have lA := cA11 aD.out))
   refine bodyPost_ret (results_cell_row rfl _ _ bM 79 #[bG, .bool true, bK, bL, aQ, aT, a2, .int .i64 3, aK, aN, aE] (0, 0) _ rfl (bm aD.out) Try.underlying79 rfl (by kernel_rfl)) rfl ?_
   exact ⟨xW, bl HB.out⟩

end Go.Proofs.Ythmijfekdeagpaa.PFnRootPorts
