/- A part of the proof of laws.FnFades. No condition beyond what its theorems say. -/
import Derived.Test.YthmijfekdeagpaaVFnFadesPx9
namespace Go.Proofs.Ythmijfekdeagpaa.PFnFades
open Go.RowKit Go.Proofs.YthmijfekdeagpaaW.PrintWords Go.Proofs.YthmijfekdeagpaaW.PrintLast Go.Proofs.YthmijfekdeagpaaW.PrintMore
set_option linter.unusedVariables false
set_option linter.unusedSimpArgs false

def spec_Claim.j0 : Nat → Int → Bool → Bool → Bool → Int → Int → Int → Int → Int → Int → Int → Int → Bool → Int → Int → Int → Int → Option (Bool × Bool × Int × Int × Int × Int × Int × Int × Int × Int × Bool)
 | 0, _, _, _, _, _, _, _, _, _, _, _, _, _, _, _, _, _ => none
 | k + 1, x2, bD, aA, aK, aN, aQ, aG, aH, aW, aX, aC, aD, aE, aT, aV, aI, aJ => if bD = true then (some (aA, aK, aN, aQ, aG, aH, aW, aX, aC, aD, aE)) else (if aK = true then ((spec_Better.f aN aQ aG aH aT aV aI aJ).bind fun bA => (if bA = true then (if aG = aI then (if aH = aJ then (some (aA, true, aT, aV, aI, aJ, x2, 3, aC, aD, aE)) else (some (aA, aK, aN, aQ, aG, aH, aW, aX, aC, aD, aE))) else (some (aA, aK, aN, aQ, aG, aH, aW, aX, aC, aD, aE))) else (some (aA, true, aT, aV, aI, aJ, x2, 3, aC, aD, aE)))) else (some (aA, true, aT, aV, aI, aJ, x2, 3, aC, aD, aE)))
def spec_Claim.f (k : Nat) (aC aD : Bool) (aE aG aH aI aJ aK aN aQ : Int) (aA : Bool) (aT aV aW aX a2 : Int) : Option (Bool × Bool × Int × Int × Int × Int × Int × Int × Int × Int × Bool) := (spec_PortOk.f k aC aD aE aG aH aI aJ aK aN aQ aA).bind fun bA => (if bA = true then (if aC = true then ((spec_VecOk.f aT aV aW aX).bind fun bD => (if bD = true then ((spec_l1In.f a2 0 8).bind fun bG => (spec_Claim.j0 k a2 (!bG) aC aD aE aG aH aI aJ aK aN aQ aA aT aV aW aX)) else (spec_Claim.j0 k a2 true aC aD aE aG aH aI aJ aK aN aQ aA aT aV aW aX))) else (spec_Claim.j0 k a2 true aC aD aE aG aH aI aJ aK aN aQ aA aT aV aW aX)) else (spec_Claim.j0 k a2 true aC aD aE aG aH aI aJ aK aN aQ aA aT aV aW aX))
theorem spec_Claim.mono_l : ∀ k, (∀ y0 y1 y2 y3 y4 y5 y6 y7 y8 y9 aA aC aD aE aG aH aI, LeO (spec_Claim.j0 k y0 y1 y2 y3 y4 y5 y6 y7 y8 y9 aA aC aD aE aG aH aI) (spec_Claim.j0 (k + 1) y0 y1 y2 y3 y4 y5 y6 y7 y8 y9 aA aC aD aE aG aH aI))
 | 0 => fun _ _ _ _ _ _ _ _ _ _ _ _ _ _ _ _ _ r h => by simp [spec_Claim.j0] at h
 | k + 1 => by
  have ih0 := spec_Claim.mono_l k
  ·intro y0 y1 y2 y3 y4 y5 y6 y7 y8 y9 aA aC aD aE aG aH aI
   unfold spec_Claim.j0
   repeat' first|(with_reducible first|apply ih0|apply spec_PortOk.mono|exact lR _|exact lN _|refine lI ?_ ?_|refine lB ?_ fun _ => ?_)|exact lN _|refine lI ?_ ?_|refine lB ?_ fun _ => ?_
theorem spec_Claim.mono : ∀ a0 a1 a2 a3 a4 a5 a6 a7 a8 a9 aA aC aD aE aG aH k, LeO (spec_Claim.f k a0 a1 a2 a3 a4 a5 a6 a7 a8 a9 aA aC aD aE aG aH) (spec_Claim.f (k + 1) a0 a1 a2 a3 a4 a5 a6 a7 a8 a9 aA aC aD aE aG aH) := by
 intro a0 a1 a2 a3 a4 a5 a6 a7 a8 a9 aA aC aD aE aG aH k
 have ih0 := spec_Claim.mono_l k
 unfold spec_Claim.f
 repeat' first|(with_reducible first|apply ih0|apply spec_PortOk.mono|exact lR _|exact lN _|refine lI ?_ ?_|refine lB ?_ fun _ => ?_)|exact lN _|refine lI ?_ ?_|refine lB ?_ fun _ => ?_
set_option maxHeartbeats 60000000 in
set_option maxRecDepth 100000 in
theorem spec_Claim.calls (k : Nat) (bH bI : Bool) (aI aJ aG aH bD bG aK aN : Int) (aE : Bool) (bL bM aQ aT a2 : Int) (r1 r2 : Bool) (r3 r4 r5 r6 r7 r8 r9 bY : Int) (bZ : Bool) (w : World) (h : spec_Claim.f k bH bI aI aJ aG aH bD bG aK aN aE bL bM aQ aT a2 = some (r1, r2, r3, r4, r5, r6, r7, r8, r9, bY, bZ)) :
  Calls Try.prog 175 #[.agg #[bH, bI, aI, aJ, aG, aH, bD, bG, aK, aN, aE], .agg #[bL, bM, aQ, aT], a2] w fun e w' => e = .returned (.agg #[r1, r2, r3, r4, r5, r6, r7, r8, r9, bY, bZ]) ∧ Below w.heap.size w w' := by
 have hH := Try.underlying79
 have hJ := Try.underlying73
 have HB := aM (Below.refl w.heap.size w)
 have H : ((spec_PortOk.f k bH bI aI aJ aG aH bD bG aK aN aE).bind fun bW => (if bW = true then (if bH = true then ((spec_VecOk.f bL bM aQ aT).bind fun bX => (if bX = true then ((spec_l1In.f a2 0 8).bind fun bT => (spec_Claim.j0 k a2 (!bT) bH bI aI aJ aG aH bD bG aK aN aE bL bM aQ aT)) else (spec_Claim.j0 k a2 true bH bI aI aJ aG aH bD bG aK aN aE bL bM aQ aT))) else (spec_Claim.j0 k a2 true bH bI aI aJ aG aH bD bG aK aN aE bL bM aQ aT)) else (spec_Claim.j0 k a2 true bH bI aI aJ aG aH bD bG aK aN aE bL bM aQ aT))) = some (r1, r2, r3, r4, r5, r6, r7, r8, r9, bY, bZ) := h
 clear h
 have cG := aM H
 clear H
 go_enter Try.func175, Try.ntmps175
 go_upto_region 1 with (first | ((with_reducible refine gD (N := 3) rfl ?_); refine bE (N := 3) (cs := #[bH, bI, aI, aJ, aG, aH, bD, bG, aK, aN, aE]) (t := 79) ?_; intro cN hg w5 hbox hb; have aA := aM (hbox); have cY := gF hg HB; have dA := gF hg HB; replace HB := rS HB hb; clear hb hbox hg) | ((with_reducible refine gD (N := 4) rfl ?_); refine bE (N := 4) (cs := #[bL, bM, aQ, aT]) (t := 73) ?_; intro cO hg w6 hbox hb; have aC := aM (hbox); have dB := gF hg HB; have dC := gF hg HB; have aV := nM hg aA; have aW := nH hg aA; replace aA := rB aA hb; replace HB := rS HB hb; clear hb hbox hg) | ((with_reducible refine gD (N := 6) rfl ?_); refine bE (N := 6) (cs := #[.bool false, .bool false, .int .i64 0, .int .i64 0, .int .i64 0, .int .i64 0, .int .i64 0, .int .i64 0, .int .i64 0, .int .i64 0, .bool false]) (t := 79) ?_; intro bN hg w7 hbox hb; have aD := aM (hbox); have dD := gF hg HB; have dE := gF hg HB; have aX := nM hg aA; have bA := nH hg aA; have bJ := nM hg aC; have bK := nH hg aC; replace aA := rB aA hb; replace aC := rB aC hb; replace HB := rS HB hb; clear hb hbox hg))
 (try simp only [Act.put, sA, sZ, sS])
 go_cut [24] (fun cW wc => ∃ (kq : Nat) (bO : Bool), cW = .bool bO ∧ Aside0 (spec_Claim.j0 kq a2 bO bH bI aI aJ aG aH bD bG aK aN aE bL bM aQ aT = some (r1, r2, r3, r4, r5, r6, r7, r8, r9, bY, bZ)) ∧ Aside0 (kq ≤ k) ∧ Aside0 (wc.heap[cN]? = some (.cells #[bH, bI, aI, aJ, aG, aH, bD, bG, aK, aN, aE] 79 (0, 0))) ∧ Aside0 (wc.heap[cO]? = some (.cells #[bL, bM, aQ, aT] 73 (0, 0))) ∧ Aside0 (wc.heap[bN]? = some (.cells #[.bool false, .bool false, .int .i64 0, .int .i64 0, .int .i64 0, .int .i64 0, .int .i64 0, .int .i64 0, .int .i64 0, .int .i64 0, .bool false] 79 (0, 0))) ∧ Aside0 (Below w.heap.size w wc))
 case first =>
  have H := cG.out
  clear cG
  obtain ⟨bW, cT, H⟩ := hB H
  have A8 := aM cT
  clear cT
  by_cases c9 : bW = true
  case neg =>
   replace c9 := Bool.eq_false_iff.mpr c9
   subst c9
   replace H := hF H
   have H' := aM H
   clear H
   have dF := aV.out
   have dG := aW.out
   have dH := aX.out
   have dI := bA.out
   have dJ := cA11 aA.out
   go_wp2_with (first | ((with_reducible refine gC (f := 123) rfl ?_); refine gL (some 8) Try.func123 #[.agg #[bH, bI, aI, aJ, aG, aH, bD, bG, aK, aN, aE]] ?_; (with_reducible refine (spec_PortOk.calls k bH bI aI aJ aG aH bD bG aK aN aE false _ A8.out).mono ?_); rintro e hO ⟨rfl, hb⟩; refine ⟨_, rfl, ?_⟩; replace aA := rB aA hb; replace aC := rB aC hb; replace aD := rB aD hb; replace HB := rS HB hb; (try clear hb)))
   go_meet
   case rel => exact ⟨_, (true), xE, H', ⟨by first | omega | exact Nat.le_refl _⟩, ⟨bk aA.out⟩, ⟨bk aC.out⟩, ⟨bk aD.out⟩, ⟨bl HB.out⟩⟩
  subst c9
  replace H := hP H rfl
  by_cases bU : bH = true
  case neg =>
   replace bU := Bool.eq_false_iff.mpr bU
   subst bU
   replace H := hF H
   have H' := aM H
   clear H
   have dK := aV.out
   have dL := aW.out
   have dM := aX.out
   have dN := bA.out
   have dO := cA11 aA.out
   go_wp2_with (first | ((with_reducible refine gC (f := 123) rfl ?_); refine gL (some 8) Try.func123 #[.agg #[.bool false, bI, aI, aJ, aG, aH, bD, bG, aK, aN, aE]] ?_; (with_reducible refine (spec_PortOk.calls k false bI aI aJ aG aH bD bG aK aN aE true _ A8.out).mono ?_); rintro e hU ⟨rfl, hb⟩; refine ⟨_, rfl, ?_⟩; replace aA := rB aA hb; replace aC := rB aC hb; replace aD := rB aD hb; replace HB := rS HB hb; (try clear hb); have dP := cA11 aA.out))
   go_meet
   case rel => exact ⟨_, (true), xE, H', ⟨by first | omega | exact Nat.le_refl _⟩, ⟨bk aA.out⟩, ⟨bk aC.out⟩, ⟨bk aD.out⟩, ⟨bl HB.out⟩⟩
  subst bU
  replace H := hP H rfl
  obtain ⟨bX, cH, H⟩ := hB H
  have cU := aM cH
  clear cH
  by_cases bV : bX = true
  case neg =>
   replace bV := Bool.eq_false_iff.mpr bV
   subst bV
   replace H := hF H
   have H' := aM H
   clear H
   have dQ := aV.out
   have dR := aW.out
   have dS := aX.out
   have dU := bA.out
   have dV := cA11 aA.out
   go_wp2_with (first | ((with_reducible refine gC (f := 123) rfl ?_); refine gL (some 8) Try.func123 #[.agg #[.bool true, bI, aI, aJ, aG, aH, bD, bG, aK, aN, aE]] ?_; (with_reducible refine (spec_PortOk.calls k true bI aI aJ aG aH bD bG aK aN aE true _ A8.out).mono ?_); rintro e hX ⟨rfl, hb⟩; refine ⟨_, rfl, ?_⟩; replace aA := rB aA hb; replace aC := rB aC hb; replace aD := rB aD hb; replace HB := rS HB hb; (try clear hb); have dW := cA11 aA.out; have dX := bJ.out; have dY := bK.out; have dZ := cA4 aC.out) | (go_at_call 181; (with_reducible refine (spec_VecOk.calls bL bM aQ aT false _ cU.out).mono ?_); rintro e hY ⟨rfl, hb⟩; replace aA := rB aA hb; replace aC := rB aC hb; replace aD := rB aD hb; replace HB := rS HB hb; (try clear hb)))
   go_meet
   case rel => exact ⟨_, (true), xE, H', ⟨by first | omega | exact Nat.le_refl _⟩, ⟨bk aA.out⟩, ⟨bk aC.out⟩, ⟨bk aD.out⟩, ⟨bl HB.out⟩⟩
  subst bV
  replace H := hP H rfl
  obtain ⟨bT, cK, H⟩ := hB H
  have cX := aM cK
  clear cK
  have H' := aM H
  clear H
  have eA := aV.out
  have eB := aW.out
  have eC := aX.out
  have eD := bA.out
  have eE := cA11 aA.out
  go_wp2_with (first | ((with_reducible refine gC (f := 123) rfl ?_); refine gL (some 8) Try.func123 #[.agg #[.bool true, bI, aI, aJ, aG, aH, bD, bG, aK, aN, aE]] ?_; (with_reducible refine (spec_PortOk.calls k true bI aI aJ aG aH bD bG aK aN aE true _ A8.out).mono ?_); rintro e hZ ⟨rfl, hb⟩; refine ⟨_, rfl, ?_⟩; replace aA := rB aA hb; replace aC := rB aC hb; replace aD := rB aD hb; replace HB := rS HB hb; (try clear hb); have eF := cA11 aA.out; have eG := bJ.out; have eH := bK.out; have eI := cA4 aC.out) | (go_at_call 181; (with_reducible refine (spec_VecOk.calls bL bM aQ aT true _ cU.out).mono ?_); rintro e iA ⟨rfl, hb⟩; replace aA := rB aA hb; replace aC := rB aC hb; replace aD := rB aD hb; replace HB := rS HB hb; (try clear hb)) | (go_at_call 80; (with_reducible refine (spec_l1In.calls a2 0 8 bT _ cX.out).mono ?_); rintro e w' ⟨rfl, ⟨nd, rfl⟩⟩))
  go_meet
  case rel => exact ⟨_, (!bT), xE, H', ⟨by first | omega | exact Nat.le_refl _⟩, ⟨bk aA.out⟩, ⟨bk aC.out⟩, ⟨bk aD.out⟩, ⟨bl HB.out⟩⟩
 case rest =>
  clear cG
  repeat first|clear c1|clear c2|clear p2|clear c3|clear c9|clear bU|clear bV|clear iB|clear iC|clear iD|clear iE|clear iF|clear iG|clear iH|clear iI|clear iJ|clear iK|clear iL
  obtain ⟨kq, bO, rfl, HA, HJ3, aA, aC, aD, HB⟩ := hcut
  cases kq with
  | zero => exact absurd HA.out (by simp [spec_Claim.j0])
  | succ iM =>
   have H := HA.out
   clear HA
   simp only [spec_Claim.j0] at H
   by_cases cA : bO = true
   case pos =>
    subst cA
    replace H := hP H rfl
    simp only [Option.some.injEq, Prod.mk.injEq] at H
    obtain ⟨rfl, rfl, rfl, rfl, rfl, rfl, rfl, rfl, rfl, rfl, rfl⟩ := H
    have eJ := aV.out
    have eK := aW.out
    have eL := aX.out
    have eM := bA.out
    have eN := cA11 aA.out
    have eO := bK.out
    have eP := bJ.out
    have eQ := cA11 aD.out
    go_wp2
    refine bodyPost_ret (results_cell_row rfl _ _ bN 79 #[bH, bI, aI, aJ, aG, aH, bD, bG, aK, aN, aE] (0, 0) _ rfl (bm aD.out) Try.underlying79 rfl (by kernel_rfl)) rfl ?_
    exact ⟨xW, bl HB.out⟩
   replace cA := Bool.eq_false_iff.mpr cA
   subst cA
   replace H := hF H
   by_cases cC : bI = true
   case neg =>
    replace cC := Bool.eq_false_iff.mpr cC
    subst cC
    replace H := hF H
    simp only [Option.some.injEq, Prod.mk.injEq] at H
    obtain ⟨rfl, rfl, rfl, rfl, rfl, rfl, rfl, rfl, rfl, rfl, rfl⟩ := H
    have eR := aV.out
    have eS := aW.out
    have eT := aX.out
    have eU := bA.out
    have eV := cA11 aA.out
    have eW := bJ.out
    have eX := bK.out
    have eY := cA4 aC.out
    have eZ := cA11 aD.out
    go_wp2
    refine bodyPost_ret (results_cell_row rfl _ _ bN 79 #[bH, .bool true, bL, bM, aQ, aT, a2, .int .i64 3, aK, aN, aE] (0, 0) _ rfl (bm aD.out) Try.underlying79 rfl (by kernel_rfl)) rfl ?_
    exact ⟨xW, bl HB.out⟩
   subst cC
   replace H := hP H rfl
   obtain ⟨cV, cL, H⟩ := hB H
   have cD := aM cL
   clear cL
   by_cases cE : cV = true
   case neg =>
    replace cE := Bool.eq_false_iff.mpr cE
    subst cE
    replace H := hF H
    simp only [Option.some.injEq, Prod.mk.injEq] at H
    obtain ⟨rfl, rfl, rfl, rfl, rfl, rfl, rfl, rfl, rfl, rfl, rfl⟩ := H
    have fA := aV.out
    have fB := aW.out
    have fC := aX.out
    have fD := bA.out
    have fE := cA11 aA.out
    have fF := bJ.out
    have fG := bK.out
    have fH := cA4 aC.out
    go_wp2_with (first | (go_at_call 68; (with_reducible refine (spec_Better.calls aI aJ aG aH bL bM aQ aT false _ cD.out).mono ?_); rintro e iN ⟨rfl, hb⟩; replace aA := rB aA hb; replace aC := rB aC hb; replace aD := rB aD hb; replace HB := rS HB hb; (try clear hb); have fI := cA11 aA.out; have fK := cA4 aC.out; have fL := cA11 aD.out))
    refine bodyPost_ret (results_cell_row rfl _ _ bN 79 #[bH, .bool true, bL, bM, aQ, aT, a2, .int .i64 3, aK, aN, aE] (0, 0) _ rfl (bm aD.out) Try.underlying79 rfl (by kernel_rfl)) rfl ?_
    exact ⟨xW, bl HB.out⟩
   subst cE
   replace H := hP H rfl
   by_cases bP : aG = aQ
   case neg =>
    rw [if_neg bP] at H
    have cP : (aG == aQ) = false := beq_eq_false_iff_ne.mpr bP
    have cQ : (aG != aQ) = true := bne_iff_ne.mpr bP
    simp only [Option.some.injEq, Prod.mk.injEq] at H
    obtain ⟨rfl, rfl, rfl, rfl, rfl, rfl, rfl, rfl, rfl, rfl, rfl⟩ := H
    have fM := aV.out
    have fN := aW.out
    have fO := aX.out
    have fP := bA.out
    have fQ := cA11 aA.out
    have fS := bJ.out
    have fT := bK.out
    have fU := cA4 aC.out
    go_wp2_with (first | (go_at_call 68; (with_reducible refine (spec_Better.calls aI aJ aG aH bL bM aQ aT true _ cD.out).mono ?_); rintro e iO ⟨rfl, hb⟩; replace aA := rB aA hb; replace aC := rB aC hb; replace aD := rB aD hb; replace HB := rS HB hb; (try clear hb); have fV := cA11 aA.out; have fW := cA4 aC.out; have fX := cA11 aD.out))
    refine bodyPost_ret (results_cell_row rfl _ _ bN 79 #[bH, .bool true, aI, aJ, aG, aH, bD, bG, aK, aN, aE] (0, 0) _ rfl (bm aD.out) Try.underlying79 rfl (by kernel_rfl)) rfl ?_
    exact ⟨xW, bl HB.out⟩
   rw [if_pos bP] at H
   have cP : (aG == aQ) = true := beq_iff_eq.mpr bP
   have cQ : (aG != aQ) = false := bne_eq_false_iff_eq.mpr bP
   clear bP
   by_cases bQ : aH = aT
   case neg =>
    rw [if_neg bQ] at H
    have cR : (aH == aT) = false := beq_eq_false_iff_ne.mpr bQ
    have cS : (aH != aT) = true := bne_iff_ne.mpr bQ
    simp only [Option.some.injEq, Prod.mk.injEq] at H
    obtain ⟨rfl, rfl, rfl, rfl, rfl, rfl, rfl, rfl, rfl, rfl, rfl⟩ := H
    have fY := aV.out
    have gA := aW.out
    have gB := aX.out
    have gG := bA.out
    have gH := cA11 aA.out
    have gJ := bJ.out
    have gK := bK.out
    have gM := cA4 aC.out
    go_wp2_with (first | (go_at_call 68; (with_reducible refine (spec_Better.calls aI aJ aG aH bL bM aQ aT true _ cD.out).mono ?_); rintro e iP ⟨rfl, hb⟩; replace aA := rB aA hb; replace aC := rB aC hb; replace aD := rB aD hb; replace HB := rS HB hb; (try clear hb); have gN := cA11 aA.out; have gO := cA4 aC.out; have gP := cA11 aD.out))
    refine bodyPost_ret (results_cell_row rfl _ _ bN 79 #[bH, .bool true, aI, aJ, aG, aH, bD, bG, aK, aN, aE] (0, 0) _ rfl (bm aD.out) Try.underlying79 rfl (by kernel_rfl)) rfl ?_
    exact ⟨xW, bl HB.out⟩
   rw [if_pos bQ] at H
   have cR : (aH == aT) = true := beq_iff_eq.mpr bQ
   have cS : (aH != aT) = false := bne_eq_false_iff_eq.mpr bQ
   clear bQ
   simp only [Option.some.injEq, Prod.mk.injEq] at H
   obtain ⟨rfl, rfl, rfl, rfl, rfl, rfl, rfl, rfl, rfl, rfl, rfl⟩ := H
   have gQ := aV.out
   have gR := aW.out
   have gS := aX.out
   have gT := bA.out
   have gU := cA11 aA.out
   have gV := bJ.out
   have gW := bK.out
   have gX := cA4 aC.out
   go_wp2_with (first | (go_at_call 68; (with_reducible refine (spec_Better.calls aI aJ aG aH bL bM aQ aT true _ cD.out).mono ?_); rintro e iQ ⟨rfl, hb⟩; replace aA := rB aA hb; replace aC := rB aC hb; replace aD := rB aD hb; replace HB := rS HB hb; (try clear hb); have gY := cA11 aA.out; have gZ := cA4 aC.out; have hD := cA11 aD.out))
   refine bodyPost_ret (results_cell_row rfl _ _ bN 79 #[bH, .bool true, bL, bM, aQ, aT, a2, .int .i64 3, aK, aN, aE] (0, 0) _ rfl (bm aD.out) Try.underlying79 rfl (by kernel_rfl)) rfl ?_
   exact ⟨xW, bl HB.out⟩

end Go.Proofs.Ythmijfekdeagpaa.PFnFades
