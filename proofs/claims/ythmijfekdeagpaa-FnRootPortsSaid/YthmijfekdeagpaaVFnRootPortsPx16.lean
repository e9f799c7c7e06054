/- Of the proof of laws.FnRootPorts: a part. No condition beyond what its theorems say. -/
import Derived.Test.YthmijfekdeagpaaVFnRootPortsPx12
namespace Go.Proofs.Ythmijfekdeagpaa.PFnRootPorts
open Go.RowKit Go.Proofs.YthmijfekdeagpaaW.PrintWords Go.Proofs.YthmijfekdeagpaaW.PrintLast Go.Proofs.YthmijfekdeagpaaW.PrintMore
attribute [local go_sem] max2_int min2_int max_two min_two max_three min_three max_four min_four   -- for this text's walks alone
set_option linter.unusedVariables false
set_option linter.unusedSimpArgs false

def impl_Turn.j0 : Nat → Int → Bool → Bool → Bool → Int → Int → Int → Int → Int → Int → Int → Int → Bool → Option (Bool × Bool × Int × Int × Int × Int × Int × Int × Int × Int × Bool)
 | 0, _, _, _, _, _, _, _, _, _, _, _, _, _ => none
 | k + 1, x1, aX, aA, aC, aD, aE, aG, aH, aI, aJ, aQ, aN, aK => if aX = true then (some (aA, aC, aD, aE, aG, aH, aI, aJ, aQ, aN, aK)) else (if x1 = 3 then ((impl_Port_isOpenBy.f aA aC aD aE aG aH aI aJ x1 0 aK).bind fun aT => (some (aA, aC, aD, aE, aG, aH, aI, aJ, x1, 0, aT))) else (if aQ = 3 then ((impl_Port_isOpenBy.f aA aC aD aE aG aH aI aJ x1 4 aK).bind fun aV => (some (aA, aC, aD, aE, aG, aH, aI, aJ, x1, 4, aV))) else ((impl_Port_isOpenBy.f aA aC aD aE aG aH aI aJ x1 aN aK).bind fun aW => (some (aA, aC, aD, aE, aG, aH, aI, aJ, x1, aN, aW)))))
def impl_Turn.f (k : Nat) (aC : Bool) (aD : Bool) (aE : Int) (aG : Int) (aH : Int) (aI : Int) (aJ : Int) (aK : Int) (aN : Int) (aQ : Int) (aA : Bool) (a1 : Int) : Option (Bool × Bool × Int × Int × Int × Int × Int × Int × Int × Int × Bool) := if aC = true then ((impl_inRange.f a1 1 3).bind fun aT => (if aT = true then ((impl_PortOk.f k aC aD aE aG aH aI aJ aK aN aQ aA).bind fun aV => (impl_Turn.j0 k a1 (!aV) aC aD aE aG aH aI aJ aK aN aQ aA)) else (impl_Turn.j0 k a1 true aC aD aE aG aH aI aJ aK aN aQ aA))) else (impl_Turn.j0 k a1 true aC aD aE aG aH aI aJ aK aN aQ aA)
theorem impl_Turn.mono_l : ∀ k, (∀ y0 y1 y2 y3 y4 y5 y6 y7 y8 y9 aA aC aD, LeO (impl_Turn.j0 k y0 y1 y2 y3 y4 y5 y6 y7 y8 y9 aA aC aD) (impl_Turn.j0 (k + 1) y0 y1 y2 y3 y4 y5 y6 y7 y8 y9 aA aC aD))
 | 0 => fun _ _ _ _ _ _ _ _ _ _ _ _ _ r h => by simp [impl_Turn.j0] at h
 | k + 1 => by
  have ih0 := impl_Turn.mono_l k
  ·intro y0 y1 y2 y3 y4 y5 y6 y7 y8 y9 aA aC aD
   unfold impl_Turn.j0
   repeat' first|(with_reducible first|apply ih0|apply impl_PortOk.mono|exact LeO.refl _|exact LeO.none _|refine LeO.ite ?_ ?_|refine LeO.bind ?_ (fun _ => ?_))|exact LeO.none _|refine LeO.ite ?_ ?_|refine LeO.bind ?_ (fun _ => ?_)
theorem impl_Turn.mono : ∀ a0 a1 a2 a3 a4 a5 a6 a7 a8 a9 aA aC k, LeO (impl_Turn.f k a0 a1 a2 a3 a4 a5 a6 a7 a8 a9 aA aC) (impl_Turn.f (k + 1) a0 a1 a2 a3 a4 a5 a6 a7 a8 a9 aA aC) := by
 intro a0 a1 a2 a3 a4 a5 a6 a7 a8 a9 aA aC k
 have ih0 := impl_Turn.mono_l k
 unfold impl_Turn.f
 repeat' first|(with_reducible first|apply ih0|apply impl_PortOk.mono|exact LeO.refl _|exact LeO.none _|refine LeO.ite ?_ ?_|refine LeO.bind ?_ (fun _ => ?_))|exact LeO.none _|refine LeO.ite ?_ ?_|refine LeO.bind ?_ (fun _ => ?_)
set_option maxHeartbeats 60000000 in
set_option maxRecDepth 100000 in
theorem impl_Turn.calls (k : Nat) (aD : Bool) (aE : Bool) (aG : Int) (aH : Int) (aI : Int) (aJ : Int) (aK : Int) (aN : Int) (aT : Int) (aV : Int) (aC : Bool) (a1 : Int) (r1 : Bool) (r2 : Bool) (r3 : Int) (r4 : Int) (r5 : Int) (r6 : Int) (r7 : Int) (r8 : Int) (r9 : Int) (bK : Int) (bL : Bool) (w : World) (h : impl_Turn.f k aD aE aG aH aI aJ aK aN aT aV aC a1 = some (r1, r2, r3, r4, r5, r6, r7, r8, r9, bK, bL)) :
  Calls Try.prog 145 #[.agg #[aD, aE, aG, aH, aI, aJ, aK, aN, aT, aV, aC], a1] w fun e w' => e = .returned (.agg #[r1, r2, r3, r4, r5, r6, r7, r8, r9, bK, bL]) ∧ Below w.heap.size w w' := by
 have gM := Try.underlying79
 have HB := aM (Below.refl w.heap.size w)
 have H : (if aD = true then ((impl_inRange.f a1 1 3).bind fun bJ => (if bJ = true then ((impl_PortOk.f k aD aE aG aH aI aJ aK aN aT aV aC).bind fun bI => (impl_Turn.j0 k a1 (!bI) aD aE aG aH aI aJ aK aN aT aV aC)) else (impl_Turn.j0 k a1 true aD aE aG aH aI aJ aK aN aT aV aC))) else (impl_Turn.j0 k a1 true aD aE aG aH aI aJ aK aN aT aV aC)) = some (r1, r2, r3, r4, r5, r6, r7, r8, r9, bK, bL) := h
 clear h
 have bN := aM H
 clear H
 go_enter Try.func145, Try.ntmps145
 go_upto_region 1 with (first | ((with_reducible refine gD (N := 2) rfl ?_); refine bE (N := 2) (cs := #[aD, aE, aG, aH, aI, aJ, aK, aN, aT, aV, aC]) (t := 79) ?_; intro bA hg w4 hbox hb; have aA := aM (hbox); have fA := gF hg HB; have fB := gF hg HB; replace HB := rS HB hb; clear hb hbox hg) | ((with_reducible refine gD (N := 4) rfl ?_); refine bE (N := 4) (cs := #[.bool false, .bool false, .int .i64 0, .int .i64 0, .int .i64 0, .int .i64 0, .int .i64 0, .int .i64 0, .int .i64 0, .int .i64 0, .bool false]) (t := 79) ?_; intro aZ hg w5 hbox hb; have aQ := aM (hbox); have fC := gF hg HB; have fD := gF hg HB; have aW := nM hg aA; have aX := nH hg aA; replace aA := rB aA hb; replace HB := rS HB hb; clear hb hbox hg))
 (try simp only [Act.put, sA, sZ, sS])
 go_cut [17] (fun eW wc => ∃ (kq : Nat) (bD : Bool), eW = .bool bD ∧ Aside0 (impl_Turn.j0 kq a1 bD aD aE aG aH aI aJ aK aN aT aV aC = some (r1, r2, r3, r4, r5, r6, r7, r8, r9, bK, bL)) ∧ Aside0 (kq ≤ k) ∧ Aside0 (wc.heap[bA]? = some (.cells #[aD, aE, aG, aH, aI, aJ, aK, aN, aT, aV, aC] 79 (0, 0))) ∧ Aside0 (wc.heap[aZ]? = some (.cells #[.bool false, .bool false, .int .i64 0, .int .i64 0, .int .i64 0, .int .i64 0, .int .i64 0, .int .i64 0, .int .i64 0, .int .i64 0, .bool false] 79 (0, 0))) ∧ Aside0 (Below w.heap.size w wc))
 case first =>
  have H := bN.out
  clear bN
  by_cases c6 : aD = true
  case neg =>
   replace c6 := Bool.eq_false_iff.mpr c6
   subst c6
   replace H := hF H
   have H' := aM H
   clear H
   have fE := aW.out
   have fF := aX.out
   have bV := cA11 aA.out
   go_wp2
   go_meet
   case rel => exact ⟨_, (true), xE, H', ⟨by first | omega | exact Nat.le_refl _⟩, ⟨bk aA.out⟩, ⟨bk aQ.out⟩, ⟨bl HB.out⟩⟩
  subst c6
  replace H := hP H rfl
  obtain ⟨bJ, cD, H⟩ := hB H
  have A7 := aM cD
  clear cD
  by_cases c8 : bJ = true
  case neg =>
   replace c8 := Bool.eq_false_iff.mpr c8
   subst c8
   replace H := hF H
   have H' := aM H
   clear H
   have fG := aW.out
   have fH := aX.out
   have bW := cA11 aA.out
   go_wp2_with (first | (go_at_call 86; (with_reducible refine (impl_inRange.calls a1 1 3 false _ A7.out).mono ?_); rintro e w' ⟨rfl, ⟨nd, rfl⟩⟩))
   go_meet
   case rel => exact ⟨_, (true), xE, H', ⟨by first | omega | exact Nat.le_refl _⟩, ⟨bk aA.out⟩, ⟨bk aQ.out⟩, ⟨bl HB.out⟩⟩
  subst c8
  replace H := hP H rfl
  obtain ⟨bI, cE, H⟩ := hB H
  have A9 := aM cE
  clear cE
  have H' := aM H
  clear H
  have fI := aW.out
  have fK := aX.out
  have bX := cA11 aA.out
  go_wp2_with (first | (go_at_call 86; (with_reducible refine (impl_inRange.calls a1 1 3 true _ A7.out).mono ?_); rintro e w' ⟨rfl, ⟨nd, rfl⟩⟩) | (go_at_call 122; (with_reducible refine (impl_PortOk.calls k true aE aG aH aI aJ aK aN aT aV aC bI _ A9.out).mono ?_); rintro e gN ⟨rfl, hb⟩; replace aA := rB aA hb; replace aQ := rB aQ hb; replace HB := rS HB hb; (try clear hb)))
  go_meet
  case rel => exact ⟨_, (!bI), xE, H', ⟨by first | omega | exact Nat.le_refl _⟩, ⟨bk aA.out⟩, ⟨bk aQ.out⟩, ⟨bl HB.out⟩⟩
 case rest =>
  clear bN
  repeat first|clear c1|clear p2|clear c6|clear c8|clear gO|clear gP|clear gQ|clear gR|clear bX|clear cP|clear cG|clear cQ|clear cR|clear cS|clear cT|clear cU|clear cV|clear cW|clear cX|clear bW|clear cY|clear cH|clear dA|clear dB|clear dC|clear dD|clear dE|clear dF|clear dG|clear dH|clear bV|clear dI|clear cK|clear dJ|clear dK|clear dL|clear dM|clear dN|clear dO|clear dP|clear dQ|clear dR|clear dS|clear cL|clear dU|clear dV|clear dW|clear dX|clear dY|clear dZ|clear eA|clear eB|clear eC|clear eD|clear cN|clear eE|clear eF|clear eG|clear eH|clear eI|clear eJ|clear eK|clear eL|clear eM|clear eN|clear cO|clear eO|clear eP|clear eQ|clear eR|clear eS|clear eT|clear eU|clear eV
  obtain ⟨kq, bD, rfl, HA, HJ2, aA, aQ, HB⟩ := hcut
  cases kq with
  | zero => exact absurd HA.out (by simp [impl_Turn.j0])
  | succ gS =>
   have H := HA.out
   clear HA
   simp only [impl_Turn.j0] at H
   by_cases bM : bD = true
   case pos =>
    subst bM
    replace H := hP H rfl
    simp only [Option.some.injEq, Prod.mk.injEq] at H
    obtain ⟨rfl, rfl, rfl, rfl, rfl, rfl, rfl, rfl, rfl, rfl, rfl⟩ := H
    have fL := aW.out
    have fM := aX.out
    have fN := cA11 aA.out
    have fO := cA11 aQ.out
    go_wp2
    refine bodyPost_ret (results_cell_row rfl _ _ aZ 79 #[aD, aE, aG, aH, aI, aJ, aK, aN, aT, aV, aC] (0, 0) _ rfl (bm aQ.out) Try.underlying79 rfl (by kernel_rfl)) rfl ?_
    exact ⟨xW, bl HB.out⟩
   replace bM := Bool.eq_false_iff.mpr bM
   subst bM
   replace H := hF H
   by_cases bG : a1 = 3
   case pos =>
    rw [if_pos bG] at H
    have bY : (a1 == 3) = true := beq_iff_eq.mpr bG
    have bZ : (a1 != 3) = false := bne_eq_false_iff_eq.mpr bG
    clear bG
    obtain ⟨bO, bP, H⟩ := hB H
    have eX := aM bP
    clear bP
    simp only [Option.some.injEq, Prod.mk.injEq] at H
    obtain ⟨rfl, rfl, rfl, rfl, rfl, rfl, rfl, rfl, rfl, rfl, rfl⟩ := H
    have fP := aW.out
    have fQ := aX.out
    have fS := cA11 aA.out
    go_wp2_with (first | ((with_reducible refine gC (f := 180) rfl ?_); refine gL (some 31) Try.func180 #[.agg #[aD, aE, aG, aH, aI, aJ, aK, aN, a1, .int .i64 0, aC]] ?_; (with_reducible refine (impl_Port_isOpenBy.calls aD aE aG aH aI aJ aK aN a1 0 aC bO _ eX.out).mono ?_); rintro e gT ⟨rfl, hb⟩; refine ⟨_, rfl, ?_⟩; replace aA := aM (bB (g := bA) (o := .cells #[aD, aE, aG, aH, aI, aJ, aK, aN, a1, .int .i64 0, aC] 79 (0, 0)) (by (with_reducible repeat (first | refine blk_drewN ?_ _ | refine blk_drew ?_ | refine blk_alloc ?_ _)); refine blk_put (cs := #[aD, aE, aG, aH, aI, aJ, aK, aN, aT, .int .i64 0, aC]) ?_ 8 _ rfl; (with_reducible repeat (first | refine blk_drewN ?_ _ | refine blk_drew ?_ | refine blk_alloc ?_ _)); refine blk_put (cs := #[aD, aE, aG, aH, aI, aJ, aK, aN, aT, aV, aC]) ?_ 9 _ rfl; (with_reducible repeat (first | refine blk_drewN ?_ _ | refine blk_drew ?_ | refine blk_alloc ?_ _)); exact aA.out) hb); replace aQ := aM (bB (fm aQ.out) hb); replace HB := rS HB hb; (try clear hb); have fT := cA11 aA.out; have fU := cA11 aQ.out))
    refine bodyPost_ret (results_cell_row rfl _ _ aZ 79 #[aD, aE, aG, aH, aI, aJ, aK, aN, a1, .int .i64 0, bO] (0, 0) _ rfl (bm aQ.out) Try.underlying79 rfl (by kernel_rfl)) rfl ?_
    exact ⟨xW, bl HB.out⟩
   rw [if_neg bG] at H
   have bY : (a1 == 3) = false := beq_eq_false_iff_ne.mpr bG
   have bZ : (a1 != 3) = true := bne_iff_ne.mpr bG
   by_cases bH : aT = 3
   case neg =>
    rw [if_neg bH] at H
    have cA : (aT == 3) = false := beq_eq_false_iff_ne.mpr bH
    have cC : (aT != 3) = true := bne_iff_ne.mpr bH
    obtain ⟨bQ, bR, H⟩ := hB H
    have eY := aM bR
    clear bR
    simp only [Option.some.injEq, Prod.mk.injEq] at H
    obtain ⟨rfl, rfl, rfl, rfl, rfl, rfl, rfl, rfl, rfl, rfl, rfl⟩ := H
    have fV := aW.out
    have fW := aX.out
    have fX := cA11 aA.out
    go_wp2_with (first | ((with_reducible refine gC (f := 180) rfl ?_); refine gL (some 31) Try.func180 #[.agg #[aD, aE, aG, aH, aI, aJ, aK, aN, a1, aV, aC]] ?_; (with_reducible refine (impl_Port_isOpenBy.calls aD aE aG aH aI aJ aK aN a1 aV aC bQ _ eY.out).mono ?_); rintro e gU ⟨rfl, hb⟩; refine ⟨_, rfl, ?_⟩; replace aA := aM (bB (g := bA) (o := .cells #[aD, aE, aG, aH, aI, aJ, aK, aN, a1, aV, aC] 79 (0, 0)) (by (with_reducible repeat (first | refine blk_drewN ?_ _ | refine blk_drew ?_ | refine blk_alloc ?_ _)); refine blk_put (cs := #[aD, aE, aG, aH, aI, aJ, aK, aN, aT, aV, aC]) ?_ 8 _ rfl; (with_reducible repeat (first | refine blk_drewN ?_ _ | refine blk_drew ?_ | refine blk_alloc ?_ _)); exact aA.out) hb); replace aQ := aM (bB (fm aQ.out) hb); replace HB := rS HB hb; (try clear hb); have fY := cA11 aA.out; have gA := cA11 aQ.out))
    refine bodyPost_ret (results_cell_row rfl _ _ aZ 79 #[aD, aE, aG, aH, aI, aJ, aK, aN, a1, aV, bQ] (0, 0) _ rfl (bm aQ.out) Try.underlying79 rfl (by kernel_rfl)) rfl ?_
    exact ⟨xW, bl HB.out⟩
   rw [if_pos bH] at H
   have cA : (aT == 3) = true := beq_iff_eq.mpr bH
   have cC : (aT != 3) = false := bne_eq_false_iff_eq.mpr bH
   clear bH
   obtain ⟨bT, bU, H⟩ := hB H
   have eZ := aM bU
   clear bU
   simp only [Option.some.injEq, Prod.mk.injEq] at H
   obtain ⟨rfl, rfl, rfl, rfl, rfl, rfl, rfl, rfl, rfl, rfl, rfl⟩ := H
   have gB := aW.out
   have gG := aX.out
   have gH := cA11 aA.out
   go_wp2_with (first | ((with_reducible refine gC (f := 180) rfl ?_); refine gL (some 31) Try.func180 #[.agg #[aD, aE, aG, aH, aI, aJ, aK, aN, a1, .int .i64 4, aC]] ?_; (with_reducible refine (impl_Port_isOpenBy.calls aD aE aG aH aI aJ aK aN a1 4 aC bT _ eZ.out).mono ?_); rintro e gV ⟨rfl, hb⟩; refine ⟨_, rfl, ?_⟩; replace aA := aM (bB (g := bA) (o := .cells #[aD, aE, aG, aH, aI, aJ, aK, aN, a1, .int .i64 4, aC] 79 (0, 0)) (by (with_reducible repeat (first | refine blk_drewN ?_ _ | refine blk_drew ?_ | refine blk_alloc ?_ _)); refine blk_put (cs := #[aD, aE, aG, aH, aI, aJ, aK, aN, aT, .int .i64 4, aC]) ?_ 8 _ rfl; (with_reducible repeat (first | refine blk_drewN ?_ _ | refine blk_drew ?_ | refine blk_alloc ?_ _)); refine blk_put (cs := #[aD, aE, aG, aH, aI, aJ, aK, aN, aT, aV, aC]) ?_ 9 _ rfl; (with_reducible repeat (first | refine blk_drewN ?_ _ | refine blk_drew ?_ | refine blk_alloc ?_ _)); exact aA.out) hb); replace aQ := aM (bB (fm aQ.out) hb); replace HB := rS HB hb; (try clear hb); have gJ := cA11 aA.out; have gK := cA11 aQ.out))
   refine bodyPost_ret (results_cell_row rfl _ _ aZ 79 #[aD, aE, aG, aH, aI, aJ, aK, aN, a1, .int .i64 4, bT] (0, 0) _ rfl (bm aQ.out) Try.underlying79 rfl (by kernel_rfl)) rfl ?_
   exact ⟨xW, bl HB.out⟩

end Go.Proofs.Ythmijfekdeagpaa.PFnRootPorts
