/- A part of the proof of laws.FnFades. No condition beyond what its theorems say. -/
import Derived.Test.YthmijfekdeagpaaVFnFadesPx5
namespace Go.Proofs.Ythmijfekdeagpaa.PFnFades
open Go.RowKit Go.Proofs.YthmijfekdeagpaaW.PrintWords Go.Proofs.YthmijfekdeagpaaW.PrintLast Go.Proofs.YthmijfekdeagpaaW.PrintMore
set_option linter.unusedVariables false
set_option linter.unusedSimpArgs false

mutual
def impl_Claim.j0 : Nat → Int → Bool → Bool → Bool → Int → Int → Int → Int → Int → Int → Int → Int → Bool → Int → Int → Int → Int → Option (Bool × Bool × Int × Int × Int × Int × Int × Int × Int × Int × Bool)
 | 0, _, _, _, _, _, _, _, _, _, _, _, _, _, _, _, _, _ => none
 | k + 1, x2, bG, aN, aD, aE, aG, aA, aC, aQ, aT, aV, aW, aX, aJ, aK, aH, aI => if bG = true then (some (aN, aD, aE, aG, aA, aC, aQ, aT, aV, aW, aX)) else (if aH = aA then (if aD = true then ((impl_Better.f k aE aG aA aC aJ aK aH aI).bind fun bA => (if bA = true then (impl_Claim.j1 k x2 (!(aI == aC)) aN aD aE aG aA aC aQ aT aV aW aX aJ aK aH aI) else (impl_Claim.j1 k x2 false aN aD aE aG aA aC aQ aT aV aW aX aJ aK aH aI))) else (impl_Claim.j1 k x2 false aN aD aE aG aA aC aQ aT aV aW aX aJ aK aH aI)) else (if aD = true then ((impl_Better.f k aE aG aA aC aJ aK aH aI).bind fun bD => (if bD = true then (impl_Claim.j2 k x2 (!false) aN aD aE aG aA aC aQ aT aV aW aX aJ aK aH aI) else (impl_Claim.j2 k x2 false aN aD aE aG aA aC aQ aT aV aW aX aJ aK aH aI))) else (impl_Claim.j2 k x2 false aN aD aE aG aA aC aQ aT aV aW aX aJ aK aH aI)))
def impl_Claim.j1 : Nat → Int → Bool → Bool → Bool → Int → Int → Int → Int → Int → Int → Int → Int → Bool → Int → Int → Int → Int → Option (Bool × Bool × Int × Int × Int × Int × Int × Int × Int × Int × Bool)
 | 0, _, _, _, _, _, _, _, _, _, _, _, _, _, _, _, _, _ => none
 | k + 1, x2, bA, aA, aG, aH, aI, aJ, aK, aN, aQ, aC, aD, aE, aT, aV, aW, aX => if bA = true then (some (aA, aG, aH, aI, aJ, aK, aN, aQ, aC, aD, aE)) else (some (aA, true, aT, aV, aW, aX, x2, 3, aC, aD, aE))
def impl_Claim.j2 : Nat → Int → Bool → Bool → Bool → Int → Int → Int → Int → Int → Int → Int → Int → Bool → Int → Int → Int → Int → Option (Bool × Bool × Int × Int × Int × Int × Int × Int × Int × Int × Bool)
 | 0, _, _, _, _, _, _, _, _, _, _, _, _, _, _, _, _, _ => none
 | k + 1, x2, bA, aA, aG, aH, aI, aJ, aK, aN, aQ, aC, aD, aE, aT, aV, aW, aX => if bA = true then (some (aA, aG, aH, aI, aJ, aK, aN, aQ, aC, aD, aE)) else (some (aA, true, aT, aV, aW, aX, x2, 3, aC, aD, aE))
end
def impl_Claim.f (k : Nat) (aC aD : Bool) (aE aG aH aI aJ aK aN aQ : Int) (aA : Bool) (aT aV aW aX a2 : Int) : Option (Bool × Bool × Int × Int × Int × Int × Int × Int × Int × Int × Bool) := if aC = true then ((impl_isHops.f a2).bind fun bA => (if bA = true then ((impl_VecOk.f aT aV aW aX).bind fun bD => (if bD = true then ((impl_PortOk.f k aC aD aE aG aH aI aJ aK aN aQ aA).bind fun bG => (impl_Claim.j0 k a2 (!bG) aC aD aE aG aH aI aJ aK aN aQ aA aT aV aW aX)) else (impl_Claim.j0 k a2 true aC aD aE aG aH aI aJ aK aN aQ aA aT aV aW aX))) else (impl_Claim.j0 k a2 true aC aD aE aG aH aI aJ aK aN aQ aA aT aV aW aX))) else (impl_Claim.j0 k a2 true aC aD aE aG aH aI aJ aK aN aQ aA aT aV aW aX)
theorem impl_Claim.mono_l : ∀ k, (∀ y0 y1 y2 y3 y4 y5 y6 y7 y8 y9 aA aC aD aE aG aH aI, LeO (impl_Claim.j0 k y0 y1 y2 y3 y4 y5 y6 y7 y8 y9 aA aC aD aE aG aH aI) (impl_Claim.j0 (k + 1) y0 y1 y2 y3 y4 y5 y6 y7 y8 y9 aA aC aD aE aG aH aI)) ∧ (∀ y0 y1 y2 y3 y4 y5 y6 y7 y8 y9 aA aC aD aE aG aH aI, LeO (impl_Claim.j1 k y0 y1 y2 y3 y4 y5 y6 y7 y8 y9 aA aC aD aE aG aH aI) (impl_Claim.j1 (k + 1) y0 y1 y2 y3 y4 y5 y6 y7 y8 y9 aA aC aD aE aG aH aI)) ∧ (∀ y0 y1 y2 y3 y4 y5 y6 y7 y8 y9 aA aC aD aE aG aH aI, LeO (impl_Claim.j2 k y0 y1 y2 y3 y4 y5 y6 y7 y8 y9 aA aC aD aE aG aH aI) (impl_Claim.j2 (k + 1) y0 y1 y2 y3 y4 y5 y6 y7 y8 y9 aA aC aD aE aG aH aI))
 | 0 => by refine ⟨?_, ?_, ?_⟩ <;> intros <;> intro r h <;> simp [impl_Claim.j0, impl_Claim.j1, impl_Claim.j2] at h
 | k + 1 => by
  obtain ⟨ih0, ih1, ih2⟩ := impl_Claim.mono_l k
  refine ⟨?_, ?_, ?_⟩
  ·intro y0 y1 y2 y3 y4 y5 y6 y7 y8 y9 aA aC aD aE aG aH aI
   unfold impl_Claim.j0
   repeat' first|(with_reducible first|apply ih0|apply ih1|apply ih2|apply impl_Better.mono|apply impl_PortOk.mono|exact lR _|exact lN _|refine lI ?_ ?_|refine lB ?_ fun _ => ?_)|exact lN _|refine lI ?_ ?_|refine lB ?_ fun _ => ?_
  ·intro y0 y1 y2 y3 y4 y5 y6 y7 y8 y9 aA aC aD aE aG aH aI
   unfold impl_Claim.j1
   repeat' first|(with_reducible first|apply ih0|apply ih1|apply ih2|apply impl_Better.mono|apply impl_PortOk.mono|exact lR _|exact lN _|refine lI ?_ ?_|refine lB ?_ fun _ => ?_)|exact lN _|refine lI ?_ ?_|refine lB ?_ fun _ => ?_
  ·intro y0 y1 y2 y3 y4 y5 y6 y7 y8 y9 aA aC aD aE aG aH aI
   unfold impl_Claim.j2
   repeat' first|(with_reducible first|apply ih0|apply ih1|apply ih2|apply impl_Better.mono|apply impl_PortOk.mono|exact lR _|exact lN _|refine lI ?_ ?_|refine lB ?_ fun _ => ?_)|exact lN _|refine lI ?_ ?_|refine lB ?_ fun _ => ?_
theorem impl_Claim.mono : ∀ a0 a1 a2 a3 a4 a5 a6 a7 a8 a9 aA aC aD aE aG aH k, LeO (impl_Claim.f k a0 a1 a2 a3 a4 a5 a6 a7 a8 a9 aA aC aD aE aG aH) (impl_Claim.f (k + 1) a0 a1 a2 a3 a4 a5 a6 a7 a8 a9 aA aC aD aE aG aH) := by
 intro a0 a1 a2 a3 a4 a5 a6 a7 a8 a9 aA aC aD aE aG aH k
 obtain ⟨ih0, ih1, ih2⟩ := impl_Claim.mono_l k
 unfold impl_Claim.f
 repeat' first|(with_reducible first|apply ih0|apply ih1|apply ih2|apply impl_Better.mono|apply impl_PortOk.mono|exact lR _|exact lN _|refine lI ?_ ?_|refine lB ?_ fun _ => ?_)|exact lN _|refine lI ?_ ?_|refine lB ?_ fun _ => ?_
def impl_Claim.T6 : Bool × List (List Nat × List Nat) := (true, [([], []), ([], []), ([], []), ([2], [2]), ([0, 2, 3], []), ([4, 0, 3, 0, 2, 3], [0, 4]), ([0, 1, 2, 3, 4, 5], []), ([6, 1, 5, 0, 1, 2, 3, 4, 5], [1, 6]), ([0, 1, 2, 3, 4, 5, 6, 7], []), ([8, 7, 0, 1, 2, 3, 4, 5, 6, 7], [8])])
def impl_Claim.B6 : List Nat := [0, 0, 0, 4, 13, 29, 63, 127, 255, 511]
theorem impl_Claim.tab6 : rtab .any (opsOf Try.f183 6) = impl_Claim.T6 := by kernel_rfl
theorem impl_Claim.bits6 : waitsOk impl_Claim.T6.2 impl_Claim.B6 = true := by kernel_rfl
set_option maxHeartbeats 60000000 in
set_option maxRecDepth 100000 in
theorem impl_Claim.calls (k : Nat) (bH bI : Bool) (bD bG aQ bA bL bM bJ bK : Int) (aT : Bool) (aW aX aN aV a2 : Int) (r1 r2 : Bool) (r3 r4 r5 r6 r7 r8 r9 bW : Int) (bX : Bool) (w : World) (h : impl_Claim.f k bH bI bD bG aQ bA bL bM bJ bK aT aW aX aN aV a2 = some (r1, r2, r3, r4, r5, r6, r7, r8, r9, bW, bX)) :
  Calls Try.prog 183 #[.agg #[bH, bI, bD, bG, aQ, bA, bL, bM, bJ, bK, aT], .agg #[aW, aX, aN, aV], a2] w fun e w' => e = .returned (.agg #[r1, r2, r3, r4, r5, r6, r7, r8, r9, bW, bX]) ∧ Below w.heap.size w w' := by
 have kG := Try.underlying79
 have kH := Try.underlying73
 have HB := aM (Below.refl w.heap.size w)
 have H : (if bH = true then ((impl_isHops.f a2).bind fun cQ => (if cQ = true then ((impl_VecOk.f aW aX aN aV).bind fun cR => (if cR = true then ((impl_PortOk.f k bH bI bD bG aQ bA bL bM bJ bK aT).bind fun cA => (impl_Claim.j0 k a2 (!cA) bH bI bD bG aQ bA bL bM bJ bK aT aW aX aN aV)) else (impl_Claim.j0 k a2 true bH bI bD bG aQ bA bL bM bJ bK aT aW aX aN aV))) else (impl_Claim.j0 k a2 true bH bI bD bG aQ bA bL bM bJ bK aT aW aX aN aV))) else (impl_Claim.j0 k a2 true bH bI bD bG aQ bA bL bM bJ bK aT aW aX aN aV)) = some (r1, r2, r3, r4, r5, r6, r7, r8, r9, bW, bX) := h
 clear h
 have cU := aM H
 clear H
 go_enter Try.func183, Try.ntmps183
 go_upto_region 1 with (first | ((with_reducible refine gD (N := 3) rfl ?_); refine bE (N := 3) (cs := #[bH, bI, bD, bG, aQ, bA, bL, bM, bJ, bK, aT]) (t := 79) ?_; intro cC hg w5 hbox hb; have aA := aM (hbox); have eW := gF hg HB; have eX := gF hg HB; replace HB := rS HB hb; clear hb hbox hg) | ((with_reducible refine gD (N := 4) rfl ?_); refine bE (N := 4) (cs := #[aW, aX, aN, aV]) (t := 73) ?_; intro bO hg w6 hbox hb; have aH := aM (hbox); have eY := gF hg HB; have eZ := gF hg HB; have aC := nM hg aA; have aD := nH hg aA; replace aA := rB aA hb; replace HB := rS HB hb; clear hb hbox hg) | ((with_reducible refine gD (N := 6) rfl ?_); refine bE (N := 6) (cs := #[.bool false, .bool false, .int .i64 0, .int .i64 0, .int .i64 0, .int .i64 0, .int .i64 0, .int .i64 0, .int .i64 0, .int .i64 0, .bool false]) (t := 79) ?_; intro bN hg w7 hbox hb; have aI := aM (hbox); have fA := gF hg HB; have fB := gF hg HB; have aE := nM hg aA; have aG := nH hg aA; have aJ := nM hg aH; have aK := nH hg aH; replace aA := rB aA hb; replace aH := rB aH hb; replace HB := rS HB hb; clear hb hbox hg))
 (try simp only [Act.put, sA, sZ, sS])
 go_cut [25] (fun dH wc => ∃ (kq : Nat) (bU : Bool), dH = .bool bU ∧ Aside0 (impl_Claim.j0 kq a2 bU bH bI bD bG aQ bA bL bM bJ bK aT aW aX aN aV = some (r1, r2, r3, r4, r5, r6, r7, r8, r9, bW, bX)) ∧ Aside0 (kq ≤ k) ∧ Aside0 (wc.heap[cC]? = some (.cells #[bH, bI, bD, bG, aQ, bA, bL, bM, bJ, bK, aT] 79 (0, 0))) ∧ Aside0 (wc.heap[bO]? = some (.cells #[aW, aX, aN, aV] 73 (0, 0))) ∧ Aside0 (wc.heap[bN]? = some (.cells #[.bool false, .bool false, .int .i64 0, .int .i64 0, .int .i64 0, .int .i64 0, .int .i64 0, .int .i64 0, .int .i64 0, .int .i64 0, .bool false] 79 (0, 0))) ∧ Aside0 (Below w.heap.size w wc))
 case first =>
  have H := cU.out
  clear cU
  by_cases c8 : bH = true
  case neg =>
   replace c8 := Bool.eq_false_iff.mpr c8
   subst c8
   replace H := hF H
   have H' := aM H
   clear H
   have fC := aC.out
   have fD := aD.out
   have fE := aE.out
   have fF := aG.out
   have fG := cA11 aA.out
   go_wp2
   go_meet
   case rel => exact ⟨_, (true), xE, H', ⟨by first | omega | exact Nat.le_refl _⟩, ⟨bk aA.out⟩, ⟨bk aH.out⟩, ⟨bk aI.out⟩, ⟨bl HB.out⟩⟩
  subst c8
  replace H := hP H rfl
  obtain ⟨cQ, dB, H⟩ := hB H
  have A9 := aM dB
  clear dB
  by_cases bV : cQ = true
  case neg =>
   replace bV := Bool.eq_false_iff.mpr bV
   subst bV
   replace H := hF H
   have H' := aM H
   clear H
   have fH := aC.out
   have fI := aD.out
   have fK := aE.out
   have fL := aG.out
   have fM := cA11 aA.out
   go_wp2_with (first | (go_at_call 179; (with_reducible refine (impl_isHops.calls a2 false _ A9.out).mono ?_); rintro e w' ⟨rfl, ⟨nd, rfl⟩⟩))
   go_meet
   case rel => exact ⟨_, (true), xE, H', ⟨by first | omega | exact Nat.le_refl _⟩, ⟨bk aA.out⟩, ⟨bk aH.out⟩, ⟨bk aI.out⟩, ⟨bl HB.out⟩⟩
  subst bV
  replace H := hP H rfl
  obtain ⟨cR, cV, H⟩ := hB H
  have dC := aM cV
  clear cV
  by_cases bY : cR = true
  case neg =>
   replace bY := Bool.eq_false_iff.mpr bY
   subst bY
   replace H := hF H
   have H' := aM H
   clear H
   have fN := aC.out
   have fO := aD.out
   have fP := aE.out
   have fQ := aG.out
   have fS := cA11 aA.out
   go_wp2_with (first | (go_at_call 179; (with_reducible refine (impl_isHops.calls a2 true _ A9.out).mono ?_); rintro e w' ⟨rfl, ⟨nd, rfl⟩⟩; have fT := aJ.out; have fU := aK.out; have fV := cA4 aH.out) | (go_at_call 178; (with_reducible refine (impl_VecOk.calls aW aX aN aV false _ dC.out).mono ?_); rintro e kX ⟨rfl, hb⟩; replace aA := rB aA hb; replace aH := rB aH hb; replace aI := rB aI hb; replace HB := rS HB hb; (try clear hb)))
   go_meet
   case rel => exact ⟨_, (true), xE, H', ⟨by first | omega | exact Nat.le_refl _⟩, ⟨bk aA.out⟩, ⟨bk aH.out⟩, ⟨bk aI.out⟩, ⟨bl HB.out⟩⟩
  subst bY
  replace H := hP H rfl
  obtain ⟨cA, cW, H⟩ := hB H
  have dI := aM cW
  clear cW
  have H' := aM H
  clear H
  have fW := aC.out
  have fX := aD.out
  have fY := aE.out
  have gA := aG.out
  have gB := cA11 aA.out
  go_wp2_with (first | (go_at_call 179; (with_reducible refine (impl_isHops.calls a2 true _ A9.out).mono ?_); rintro e w' ⟨rfl, ⟨nd, rfl⟩⟩; have gG := aJ.out; have gH := aK.out; have gJ := cA4 aH.out) | (go_at_call 178; (with_reducible refine (impl_VecOk.calls aW aX aN aV true _ dC.out).mono ?_); rintro e kY ⟨rfl, hb⟩; replace aA := rB aA hb; replace aH := rB aH hb; replace aI := rB aI hb; replace HB := rS HB hb; (try clear hb); have gK := cA11 aA.out) | (go_at_call 122; (with_reducible refine (impl_PortOk.calls k true bI bD bG aQ bA bL bM bJ bK aT cA _ dI.out).mono ?_); rintro e kZ ⟨rfl, hb⟩; replace aA := rB aA hb; replace aH := rB aH hb; replace aI := rB aI hb; replace HB := rS HB hb; (try clear hb)))
  go_meet
  case rel => exact ⟨_, (!cA), xE, H', ⟨by first | omega | exact Nat.le_refl _⟩, ⟨bk aA.out⟩, ⟨bk aH.out⟩, ⟨bk aI.out⟩, ⟨bl HB.out⟩⟩
 case rest =>
  clear cU
  repeat first|clear c1|clear c2|clear p2|clear c3|clear c8|clear bV|clear bY|clear dJ|clear dK|clear dL|clear dM|clear dN|clear dO|clear dP|clear dQ|clear dR|clear dS|clear dU
  obtain ⟨kq, bU, rfl, HA, HJ3, aA, aH, aI, HB⟩ := hcut
  cases kq with
  | zero => exact absurd HA.out (by simp [impl_Claim.j0])
  | succ bZ =>
   have H := HA.out
   clear HA
   simp only [impl_Claim.j0] at H
   by_cases cH : bU = true
   case pos =>
    subst cH
    replace H := hP H rfl
    simp only [Option.some.injEq, Prod.mk.injEq] at H
    obtain ⟨rfl, rfl, rfl, rfl, rfl, rfl, rfl, rfl, rfl, rfl, rfl⟩ := H
    have gM := aC.out
    have gN := aD.out
    have gO := aE.out
    have gP := aG.out
    have gQ := cA11 aA.out
    have gR := aK.out
    have gS := aJ.out
    have gT := cA11 aI.out
    go_wp2
    refine bodyPost_ret (results_cell_row rfl _ _ bN 79 #[bH, bI, bD, bG, aQ, bA, bL, bM, bJ, bK, aT] (0, 0) _ rfl (bm aI.out) Try.underlying79 rfl (by kernel_rfl)) rfl ?_
    exact ⟨xW, bl HB.out⟩
   replace cH := Bool.eq_false_iff.mpr cH
   subst cH
   replace H := hF H
   by_cases bP : aN = aQ
   case pos =>
    rw [if_pos bP] at H
    have cD : (aN == aQ) = true := beq_iff_eq.mpr bP
    have cE : (aN != aQ) = false := bne_eq_false_iff_eq.mpr bP
    clear bP
    have cS := aM H
    clear H
    have gU := aD.out
    have gV := aC.out
    have gW := aJ.out
    have gX := aK.out
    have gY := cA4 aH.out
    have gZ := aE.out
    have hD := aG.out
    have hH := cA11 aA.out
    go_upto_region 4 with (fail)
    go_cut [52] (fun cX wc => ∃ (kq : Nat) (bQ : Bool), cX = .bool bQ ∧ Aside0 (impl_Claim.j1 kq a2 bQ bH bI bD bG aQ bA bL bM bJ bK aT aW aX aN aV = some (r1, r2, r3, r4, r5, r6, r7, r8, r9, bW, bX)) ∧ Aside0 (kq ≤ bZ) ∧ Aside0 (wc.heap[cC]? = some (.cells #[bH, bI, bD, bG, aQ, bA, bL, bM, bJ, bK, aT] 79 (0, 0))) ∧ Aside0 (wc.heap[bO]? = some (.cells #[aW, aX, aN, aV] 73 (0, 0))) ∧ Aside0 (wc.heap[bN]? = some (.cells #[.bool false, .bool false, .int .i64 0, .int .i64 0, .int .i64 0, .int .i64 0, .int .i64 0, .int .i64 0, .int .i64 0, .int .i64 0, .bool false] 79 (0, 0))) ∧ Aside0 (Below w.heap.size w wc))
    case first =>
     have H := cS.out
     clear cS
     by_cases cK : bI = true
     case neg =>
      replace cK := Bool.eq_false_iff.mpr cK
      subst cK
      replace H := hF H
      have H' := aM H
      clear H
      have hJ := aC.out
      have hO := aD.out
      have hU := aE.out
      have hX := aG.out
      have hY := cA11 aA.out
      go_wp2
      go_meet
      case rel => exact ⟨_, (false), xE, H', ⟨by have := HJ3.out; first | omega | exact Nat.le_refl _⟩, ⟨bk aA.out⟩, ⟨bk aH.out⟩, ⟨bk aI.out⟩, ⟨bl HB.out⟩⟩
     subst cK
     replace H := hP H rfl
     obtain ⟨dF, cY, H⟩ := hB H
     have dD := aM cY
     clear cY
     by_cases cL : dF = true
     case pos =>
      subst cL
      replace H := hP H rfl
      have H' := aM H
      clear H
      have hZ := aC.out
      have iA := aD.out
      have iB := aE.out
      have iC := aG.out
      have iD := cA11 aA.out
      have iE := aJ.out
      have iF := aK.out
      have iG := cA4 aH.out
      go_wp2_with (first | (go_at_call 47; (with_reducible refine (impl_Better.calls bZ bD bG aQ bA aW aX aN aV true _ dD.out).mono ?_); rintro e lA ⟨rfl, hb⟩; replace aA := rB aA hb; replace aH := rB aH hb; replace aI := rB aI hb; replace HB := rS HB hb; (try clear hb)))
      go_meet
      case rel => exact ⟨_, (!(aV == bA)), xE, H', ⟨by have := HJ3.out; first | omega | exact Nat.le_refl _⟩, ⟨bk aA.out⟩, ⟨bk aH.out⟩, ⟨bk aI.out⟩, ⟨bl HB.out⟩⟩
     replace cL := Bool.eq_false_iff.mpr cL
     subst cL
     replace H := hF H
     have H' := aM H
     clear H
     have iH := aC.out
     have iI := aD.out
     have iJ := aE.out
     have iK := aG.out
     have iL := cA11 aA.out
     have iM := aJ.out
     have iN := aK.out
     have iO := cA4 aH.out
     go_wp2_with (first | (go_at_call 47; (with_reducible refine (impl_Better.calls bZ bD bG aQ bA aW aX aN aV false _ dD.out).mono ?_); rintro e lC ⟨rfl, hb⟩; replace aA := rB aA hb; replace aH := rB aH hb; replace aI := rB aI hb; replace HB := rS HB hb; (try clear hb)))
     go_meet
     case rel => exact ⟨_, (false), xE, H', ⟨by have := HJ3.out; first | omega | exact Nat.le_refl _⟩, ⟨bk aA.out⟩, ⟨bk aH.out⟩, ⟨bk aI.out⟩, ⟨bl HB.out⟩⟩
    case rest =>
     clear cS
     repeat first|clear c1|clear c2|clear p2|clear c3|clear c4|clear c5|clear c6|clear c8|clear bV|clear bY|clear dJ|clear dK|clear dL|clear dM|clear dN|clear dO|clear dP|clear dQ|clear dR|clear dS|clear dU|clear cH|clear lD|clear lE|clear lF|clear bP|clear cD|clear cE|clear lG|clear lH|clear lJ|clear cK|clear cL|clear lK|clear lL|clear lM|clear lO|clear lP|clear lQ|clear lS|clear lT|clear p2
     obtain ⟨kq, bQ, rfl, HA, HJ40, aA, aH, aI, HB⟩ := hcut
     cases kq with
     | zero => exact absurd HA.out (by simp [impl_Claim.j1])
     | succ kI =>
      have H := HA.out
      clear HA
      simp only [impl_Claim.j1] at H
      by_cases cN : bQ = true
      case pos =>
       subst cN
       replace H := hP H rfl
       simp only [Option.some.injEq, Prod.mk.injEq] at H
       obtain ⟨rfl, rfl, rfl, rfl, rfl, rfl, rfl, rfl, rfl, rfl, rfl⟩ := H
       have iP := aC.out
       have iQ := aD.out
       have iR := aE.out
       have iS := aG.out
       have iT := cA11 aA.out
       have iU := aK.out
       have iV := aJ.out
       have iW := cA11 aI.out
       go_wp2
       refine bodyPost_ret (results_cell_row rfl _ _ bN 79 #[bH, bI, bD, bG, aQ, bA, bL, bM, bJ, bK, aT] (0, 0) _ rfl (bm aI.out) Try.underlying79 rfl (by kernel_rfl)) rfl ?_
       exact ⟨xW, bl HB.out⟩
      replace cN := Bool.eq_false_iff.mpr cN
      subst cN
      replace H := hF H
      simp only [Option.some.injEq, Prod.mk.injEq] at H
      obtain ⟨rfl, rfl, rfl, rfl, rfl, rfl, rfl, rfl, rfl, rfl, rfl⟩ := H
      try go_wp2
      replace aA := aM (blk_drew aA.out)
      replace aH := aM (blk_drew aH.out)
      replace aI := aM (blk_drew aI.out)
      replace HB := aM (below_drew1 HB.out)
      refine start_ (n := 10) (S := fun w' => cS4 w' bO (.int .i64 aW) (.int .i64 aX) (.int .i64 aN) (.int .i64 aV)) (ds := []) (dn 10 0) (by kernel_rfl) rfl rfl ⟨cI aH.out 0, cI aH.out 1, cI aH.out 2, cI aH.out 3⟩ (fun hHeld => ?_); refine with_tabW impl_Claim.tab6 impl_Claim.bits6 (fun HT_ HW_ => ?_)
      generalize wc.drew = lU at aA aH aI HB hHeld ⊢
      refine pZ 1 55 (bv 10 2) HT_ ?_
      refine pZ 2 56 (bv 10 6) HT_ ?_
      refine aZ 0 54 (bv 10 7) HT_ HW_ hHeld ?_
      refine one_ (i := 3) (N := none) (bv 10 15) rfl rfl (one_of HT_.out (by kernel_rfl)) (by decide) (fun K hK => ?_)
      have kJ := cI aA.out 1
      have hfs72 := bF aA.out 1
      have hns72_1 := aD.out
      have hns72_2 := aG.out
      have hms72_1 := aC.out
      have hms72_2 := aE.out
      refine skip_ (w1 := ?_) (by rfl) rfl ?_ ?_
      rotate_left
      ·go_simp
       rfl
      refine hK.out _ _ ⟨(cm (hHeld.1)), (cm (hHeld.2.1)), (cm (hHeld.2.2.1)), (cm (hHeld.2.2.2))⟩ (fun hHeld => ?_)
      clear hK K
      refine pZ 4 57 (bv 10 31) HT_ ?_
      refine one_ (i := 5) (N := none) (bv 10 63) rfl rfl (one_of HT_.out (by kernel_rfl)) (by decide) (fun K hK => ?_)
      have kK := cI aA.out 2
      have hfs73 := bF aA.out 2
      have hns73_1 := aD.out
      have hns73_2 := aG.out
      have hms73_1 := aC.out
      have hms73_2 := aE.out
      have kL := cI aA.out 3
      have hfs74 := bF aA.out 3
      have hns74_1 := aD.out
      have hns74_2 := aG.out
      have hms74_1 := aC.out
      have hms74_2 := aE.out
      have kM := cI aA.out 4
      have hfs75 := bF aA.out 4
      have hns75_1 := aD.out
      have hns75_2 := aG.out
      have hms75_1 := aC.out
      have hms75_2 := aE.out
      have kN := cI aA.out 5
      have hfs76 := bF aA.out 5
      have hns76_1 := aD.out
      have hns76_2 := aG.out
      have hms76_1 := aC.out
      have hms76_2 := aE.out
      refine skip_ (w1 := ?_) (by rfl) rfl ?_ ?_
      rotate_left
      ·go_simp
       rfl
      refine hK.out _ _ ⟨(cm (hHeld.1)), (cm (hHeld.2.1)), (cm (hHeld.2.2.1)), (cm (hHeld.2.2.2))⟩ (fun hHeld => ?_)
      clear hK K
      refine pZ 6 58 (bv 10 127) HT_ ?_
      refine one_ (i := 7) (N := none) (bv 10 255) rfl rfl (one_of HT_.out (by kernel_rfl)) (by decide) (fun K hK => ?_)
      have kO := cI aA.out 6
      have hfs77 := bF aA.out 6
      have hns77_1 := aD.out
      have hns77_2 := aG.out
      have hms77_1 := aC.out
      have hms77_2 := aE.out
      refine skip_ (w1 := ?_) (by rfl) rfl ?_ ?_
      rotate_left
      ·go_simp
       rfl
      refine hK.out _ _ ⟨(cm (hHeld.1)), (cm (hHeld.2.1)), (cm (hHeld.2.2.1)), (cm (hHeld.2.2.2))⟩ (fun hHeld => ?_)
      clear hK K
      refine pZ 8 59 (bv 10 511) HT_ ?_
      refine one_ (i := 9) (N := none) (bv 10 1023) rfl rfl (one_of HT_.out (by kernel_rfl)) (by decide) (fun K hK => ?_)
      have kP := cI aA.out 7
      have hfs78 := bF aA.out 7
      have hns78_1 := aD.out
      have hns78_2 := aG.out
      have hms78_1 := aC.out
      have hms78_2 := aE.out
      refine skip_ (w1 := ?_) (by rfl) rfl ?_ ?_
      rotate_left
      ·go_simp
       rfl
      refine hK.out _ _ ⟨(cm (hHeld.1)), (cm (hHeld.2.1)), (cm (hHeld.2.2.1)), (cm (hHeld.2.2.2))⟩ (fun hHeld => ?_)
      clear hK K
      refine done_ (done_of HT_.out (by kernel_rfl)) ?_
      have iX := aC.out
      have iY := aD.out
      have iZ := aE.out
      have jA := aG.out
      have jB := cA11 aA.out
      have jC := aK.out
      have jD := aJ.out
      have jE := cA11 aI.out
      try go_wp2
      refine bodyPost_ret (results_cell_row rfl _ _ bN 79 #[bH, .bool true, aW, aX, aN, aV, a2, .int .i64 3, bJ, bK, aT] (0, 0) _ rfl (bm aI.out) Try.underlying79 rfl (by kernel_rfl)) rfl ?_
      exact ⟨xW, bl HB.out⟩
   rw [if_neg bP] at H
   have cD : (aN == aQ) = false := beq_eq_false_iff_ne.mpr bP
   have cE : (aN != aQ) = true := bne_iff_ne.mpr bP
   have cT := aM H
   clear H
   have jF := aD.out
   have jG := aC.out
   have jH := aJ.out
   have jI := aK.out
   have jJ := cA4 aH.out
   have jK := aE.out
   have jL := aG.out
   have jM := cA11 aA.out
   go_upto_region 4 with (fail)
   go_cut [52] (fun cX wc => ∃ (kq : Nat) (bT : Bool), cX = .bool bT ∧ Aside0 (impl_Claim.j2 kq a2 bT bH bI bD bG aQ bA bL bM bJ bK aT aW aX aN aV = some (r1, r2, r3, r4, r5, r6, r7, r8, r9, bW, bX)) ∧ Aside0 (kq ≤ bZ) ∧ Aside0 (wc.heap[cC]? = some (.cells #[bH, bI, bD, bG, aQ, bA, bL, bM, bJ, bK, aT] 79 (0, 0))) ∧ Aside0 (wc.heap[bO]? = some (.cells #[aW, aX, aN, aV] 73 (0, 0))) ∧ Aside0 (wc.heap[bN]? = some (.cells #[.bool false, .bool false, .int .i64 0, .int .i64 0, .int .i64 0, .int .i64 0, .int .i64 0, .int .i64 0, .int .i64 0, .int .i64 0, .bool false] 79 (0, 0))) ∧ Aside0 (Below w.heap.size w wc))
   case first =>
    have H := cT.out
    clear cT
    by_cases cO : bI = true
    case neg =>
     replace cO := Bool.eq_false_iff.mpr cO
     subst cO
     replace H := hF H
     have H' := aM H
     clear H
     have dV := aC.out
     have dW := aD.out
     have dX := aE.out
     have dY := aG.out
     have dZ := cA11 aA.out
     go_wp2
     go_meet
     case rel => exact ⟨_, (false), xE, H', ⟨by have := HJ3.out; first | omega | exact Nat.le_refl _⟩, ⟨bk aA.out⟩, ⟨bk aH.out⟩, ⟨bk aI.out⟩, ⟨bl HB.out⟩⟩
    subst cO
    replace H := hP H rfl
    obtain ⟨dG, dA, H⟩ := hB H
    have dE := aM dA
    clear dA
    by_cases cP : dG = true
    case pos =>
     subst cP
     replace H := hP H rfl
     have H' := aM H
     clear H
     have jN := aC.out
     have jO := aD.out
     have jP := aE.out
     have jQ := aG.out
     have jR := cA11 aA.out
     have jS := aJ.out
     have jT := aK.out
     have jU := cA4 aH.out
     go_wp2_with (first | (go_at_call 47; (with_reducible refine (impl_Better.calls bZ bD bG aQ bA aW aX aN aV true _ dE.out).mono ?_); rintro e lV ⟨rfl, hb⟩; replace aA := rB aA hb; replace aH := rB aH hb; replace aI := rB aI hb; replace HB := rS HB hb; (try clear hb)))
     go_meet
     case rel => exact ⟨_, (!false), xE, H', ⟨by have := HJ3.out; first | omega | exact Nat.le_refl _⟩, ⟨bk aA.out⟩, ⟨bk aH.out⟩, ⟨bk aI.out⟩, ⟨bl HB.out⟩⟩
    replace cP := Bool.eq_false_iff.mpr cP
    subst cP
    replace H := hF H
    have H' := aM H
    clear H
    have jV := aC.out
    have jW := aD.out
    have eA := aE.out
    have eB := aG.out
    have eC := cA11 aA.out
    have eD := aJ.out
    have eE := aK.out
    have eF := cA4 aH.out
    go_wp2_with (first | (go_at_call 47; (with_reducible refine (impl_Better.calls bZ bD bG aQ bA aW aX aN aV false _ dE.out).mono ?_); rintro e kQ ⟨rfl, hb⟩; replace aA := rB aA hb; replace aH := rB aH hb; replace aI := rB aI hb; replace HB := rS HB hb; (try clear hb)))
    go_meet
    case rel => exact ⟨_, (false), xE, H', ⟨by have := HJ3.out; first | omega | exact Nat.le_refl _⟩, ⟨bk aA.out⟩, ⟨bk aH.out⟩, ⟨bk aI.out⟩, ⟨bl HB.out⟩⟩
   case rest =>
    clear cT
    repeat first|clear c1|clear p2|clear c4|clear c6|clear c7|clear c8|clear c9|clear bV|clear bP|clear cD|clear cE|clear cN|clear lW|clear lX|clear lY|clear lZ|clear mA|clear mB|clear mC|clear mD|clear mE|clear cO|clear cP|clear mF|clear mG|clear mH|clear mI|clear kR|clear kS|clear kT|clear kU|clear p2
    obtain ⟨kq, bT, rfl, HA, HJ83, aA, aH, aI, HB⟩ := hcut
    cases kq with
    | zero => exact absurd HA.out (by simp [impl_Claim.j2])
    | succ kV =>
     have H := HA.out
     clear HA
     simp only [impl_Claim.j2] at H
     by_cases cG : bT = true
     case pos =>
      subst cG
      replace H := hP H rfl
      simp only [Option.some.injEq, Prod.mk.injEq] at H
      obtain ⟨rfl, rfl, rfl, rfl, rfl, rfl, rfl, rfl, rfl, rfl, rfl⟩ := H
      have eG := aC.out
      have eH := aD.out
      have eI := aE.out
      have eJ := aG.out
      have eK := cA11 aA.out
      have eL := aK.out
      have eM := aJ.out
      have eN := cA11 aI.out
      go_wp2
      refine bodyPost_ret (results_cell_row rfl _ _ bN 79 #[bH, bI, bD, bG, aQ, bA, bL, bM, bJ, bK, aT] (0, 0) _ rfl (bm aI.out) Try.underlying79 rfl (by kernel_rfl)) rfl ?_
      exact ⟨xW, bl HB.out⟩
     replace cG := Bool.eq_false_iff.mpr cG
     subst cG
     replace H := hF H
     simp only [Option.some.injEq, Prod.mk.injEq] at H
     obtain ⟨rfl, rfl, rfl, rfl, rfl, rfl, rfl, rfl, rfl, rfl, rfl⟩ := H
     try go_wp2
     replace aA := aM (blk_drew aA.out)
     replace aH := aM (blk_drew aH.out)
     replace aI := aM (blk_drew aI.out)
     replace HB := aM (below_drew1 HB.out)
     refine start_ (n := 10) (S := fun w' => cS4 w' bO (.int .i64 aW) (.int .i64 aX) (.int .i64 aN) (.int .i64 aV)) (ds := []) (dn 10 0) (by kernel_rfl) rfl rfl ⟨cI aH.out 0, cI aH.out 1, cI aH.out 2, cI aH.out 3⟩ (fun hHeld => ?_); refine with_tabW impl_Claim.tab6 impl_Claim.bits6 (fun HT_ HW_ => ?_)
     generalize wc.drew = kW at aA aH aI HB hHeld ⊢
     refine pZ 1 55 (bv 10 2) HT_ ?_
     refine pZ 2 56 (bv 10 6) HT_ ?_
     refine aZ 0 54 (bv 10 7) HT_ HW_ hHeld ?_
     refine one_ (i := 3) (N := none) (bv 10 15) rfl rfl (one_of HT_.out (by kernel_rfl)) (by decide) (fun K hK => ?_)
     have jX := cI aA.out 1
     have hfs115 := bF aA.out 1
     have hns115_1 := aD.out
     have hns115_2 := aG.out
     have hms115_1 := aC.out
     have hms115_2 := aE.out
     refine skip_ (w1 := ?_) (by rfl) rfl ?_ ?_
     rotate_left
     ·go_simp
      rfl
     refine hK.out _ _ ⟨(cm (hHeld.1)), (cm (hHeld.2.1)), (cm (hHeld.2.2.1)), (cm (hHeld.2.2.2))⟩ (fun hHeld => ?_)
     clear hK K
     refine pZ 4 57 (bv 10 31) HT_ ?_
     refine one_ (i := 5) (N := none) (bv 10 63) rfl rfl (one_of HT_.out (by kernel_rfl)) (by decide) (fun K hK => ?_)
     have jY := cI aA.out 2
     have hfs116 := bF aA.out 2
     have hns116_1 := aD.out
     have hns116_2 := aG.out
     have hms116_1 := aC.out
     have hms116_2 := aE.out
     have jZ := cI aA.out 3
     have hfs117 := bF aA.out 3
     have hns117_1 := aD.out
     have hns117_2 := aG.out
     have hms117_1 := aC.out
     have hms117_2 := aE.out
     have kA := cI aA.out 4
     have hfs118 := bF aA.out 4
     have hns118_1 := aD.out
     have hns118_2 := aG.out
     have hms118_1 := aC.out
     have hms118_2 := aE.out
     have kC := cI aA.out 5
     have hfs119 := bF aA.out 5
     have hns119_1 := aD.out
     have hns119_2 := aG.out
     have hms119_1 := aC.out
     have hms119_2 := aE.out
     refine skip_ (w1 := ?_) (by rfl) rfl ?_ ?_
     rotate_left
     ·go_simp
      rfl
     refine hK.out _ _ ⟨(cm (hHeld.1)), (cm (hHeld.2.1)), (cm (hHeld.2.2.1)), (cm (hHeld.2.2.2))⟩ (fun hHeld => ?_)
     clear hK K
     refine pZ 6 58 (bv 10 127) HT_ ?_
     refine one_ (i := 7) (N := none) (bv 10 255) rfl rfl (one_of HT_.out (by kernel_rfl)) (by decide) (fun K hK => ?_)
     have kD := cI aA.out 6
     have hfs120 := bF aA.out 6
     have hns120_1 := aD.out
     have hns120_2 := aG.out
     have hms120_1 := aC.out
     have hms120_2 := aE.out
     refine skip_ (w1 := ?_) (by rfl) rfl ?_ ?_
     rotate_left
     ·go_simp
      rfl
     refine hK.out _ _ ⟨(cm (hHeld.1)), (cm (hHeld.2.1)), (cm (hHeld.2.2.1)), (cm (hHeld.2.2.2))⟩ (fun hHeld => ?_)
     clear hK K
     refine pZ 8 59 (bv 10 511) HT_ ?_
     refine one_ (i := 9) (N := none) (bv 10 1023) rfl rfl (one_of HT_.out (by kernel_rfl)) (by decide) (fun K hK => ?_)
     have kE := cI aA.out 7
     have hfs121 := bF aA.out 7
     have hns121_1 := aD.out
     have hns121_2 := aG.out
     have hms121_1 := aC.out
     have hms121_2 := aE.out
     refine skip_ (w1 := ?_) (by rfl) rfl ?_ ?_
     rotate_left
     ·go_simp
      rfl
     refine hK.out _ _ ⟨(cm (hHeld.1)), (cm (hHeld.2.1)), (cm (hHeld.2.2.1)), (cm (hHeld.2.2.2))⟩ (fun hHeld => ?_)
     clear hK K
     refine done_ (done_of HT_.out (by kernel_rfl)) ?_
     have eO := aC.out
     have eP := aD.out
     have eQ := aE.out
     have eR := aG.out
     have eS := cA11 aA.out
     have eT := aK.out
     have eU := aJ.out
     have eV := cA11 aI.out
     try go_wp2
     refine bodyPost_ret (results_cell_row rfl _ _ bN 79 #[bH, .bool true, aW, aX, aN, aV, a2, .int .i64 3, bJ, bK, aT] (0, 0) _ rfl (bm aI.out) Try.underlying79 rfl (by kernel_rfl)) rfl ?_
     exact ⟨xW, bl HB.out⟩

end Go.Proofs.Ythmijfekdeagpaa.PFnFades
