/- A part of the proof of laws.FnExactReact. No condition beyond what its theorems say. -/
import Derived.Test.YthmijfekdeagpaaVFnExactReactPx7
namespace Go.Proofs.Ythmijfekdeagpaa.PFnExactReact
open Go.RowKit Go.Proofs.YthmijfekdeagpaaW.PrintWords Go.Proofs.YthmijfekdeagpaaW.PrintLast Go.Proofs.YthmijfekdeagpaaW.PrintMore
set_option linter.unusedVariables false
set_option linter.unusedSimpArgs false

def Z20.j0 : Nat → Int → Bool → Bool → Bool → Int → Int → Int → Int → Int → Int → Int → Int → Bool → Option (Bool × Bool × Int × Int × Int × Int × Int × Int × Int × Int × Bool)
 | 0, _, _, _, _, _, _, _, _, _, _, _, _, _ => none
 | k + 1, x1, aX, aA, aC, aD, aE, aG, aH, aI, aJ, aQ, aN, aK => if aX = true then (some (aA, aC, aD, aE, aG, aH, aI, aJ, aQ, aN, aK)) else (if x1 = 3 then ((Z46.f aA aC aD aE aG aH aI aJ x1 0 aK).bind fun aT => (some (aA, aC, aD, aE, aG, aH, aI, aJ, x1, 0, aT))) else (if aQ = 3 then ((Z46.f aA aC aD aE aG aH aI aJ x1 4 aK).bind fun aV => (some (aA, aC, aD, aE, aG, aH, aI, aJ, x1, 4, aV))) else ((Z46.f aA aC aD aE aG aH aI aJ x1 aN aK).bind fun aW => (some (aA, aC, aD, aE, aG, aH, aI, aJ, x1, aN, aW)))))
def Z20.f (k : Nat) (aC aD : Bool) (aE aG aH aI aJ aK aN aQ : Int) (aA : Bool) (a1 : Int) : Option (Bool × Bool × Int × Int × Int × Int × Int × Int × Int × Int × Bool) := if aC = true then ((Z15.f a1 1 3).bind fun aT => (if aT = true then ((Z11.f k aC aD aE aG aH aI aJ aK aN aQ aA).bind fun aV => (Z20.j0 k a1 (!aV) aC aD aE aG aH aI aJ aK aN aQ aA)) else (Z20.j0 k a1 true aC aD aE aG aH aI aJ aK aN aQ aA))) else (Z20.j0 k a1 true aC aD aE aG aH aI aJ aK aN aQ aA)
theorem Z20.mono_l : ∀ k, (∀ y0 y1 y2 y3 y4 y5 y6 y7 y8 y9 aA aC aD, LeO (Z20.j0 k y0 y1 y2 y3 y4 y5 y6 y7 y8 y9 aA aC aD) (Z20.j0 (k + 1) y0 y1 y2 y3 y4 y5 y6 y7 y8 y9 aA aC aD))
 | 0 => fun _ _ _ _ _ _ _ _ _ _ _ _ _ r h => by simp [Z20.j0] at h
 | k + 1 => by
  have ih0 := Z20.mono_l k
  ·intro y0 y1 y2 y3 y4 y5 y6 y7 y8 y9 aA aC aD
   unfold Z20.j0
   repeat' first|(with_reducible first|apply ih0|apply Z11.mono|exact lR _|exact lN _|refine lI ?_ ?_|refine lB ?_ fun _ => ?_)|exact lN _|refine lI ?_ ?_|refine lB ?_ fun _ => ?_
theorem Z20.mono : ∀ a0 a1 a2 a3 a4 a5 a6 a7 a8 a9 aA aC k, LeO (Z20.f k a0 a1 a2 a3 a4 a5 a6 a7 a8 a9 aA aC) (Z20.f (k + 1) a0 a1 a2 a3 a4 a5 a6 a7 a8 a9 aA aC) := by
 intro a0 a1 a2 a3 a4 a5 a6 a7 a8 a9 aA aC k
 have ih0 := Z20.mono_l k
 unfold Z20.f
 repeat' first|(with_reducible first|apply ih0|apply Z11.mono|exact lR _|exact lN _|refine lI ?_ ?_|refine lB ?_ fun _ => ?_)|exact lN _|refine lI ?_ ?_|refine lB ?_ fun _ => ?_
set_option maxHeartbeats 60000000 in
set_option maxRecDepth 100000 in
theorem Z20.calls (k : Nat) (aD aE : Bool) (aG aH aI aJ aK aN aT aV : Int) (aC : Bool) (a1 : Int) (r1 r2 : Bool) (r3 r4 r5 r6 r7 r8 r9 bL : Int) (bM : Bool) (w : World) (h : Z20.f k aD aE aG aH aI aJ aK aN aT aV aC a1 = some (r1, r2, r3, r4, r5, r6, r7, r8, r9, bL, bM)) :
  Calls Try.prog 145 #[.agg #[aD, aE, aG, aH, aI, aJ, aK, aN, aT, aV, aC], a1] w fun e w' => e = .returned (.agg #[r1, r2, r3, r4, r5, r6, r7, r8, r9, bL, bM]) ∧ Below w.heap.size w w' := by
 have dU := Try.underlying79
 have HB := aM (Below.refl w.heap.size w)
 have H : (if aD = true then ((Z15.f a1 1 3).bind fun bK => (if bK = true then ((Z11.f k aD aE aG aH aI aJ aK aN aT aV aC).bind fun bJ => (Z20.j0 k a1 (!bJ) aD aE aG aH aI aJ aK aN aT aV aC)) else (Z20.j0 k a1 true aD aE aG aH aI aJ aK aN aT aV aC))) else (Z20.j0 k a1 true aD aE aG aH aI aJ aK aN aT aV aC)) = some (r1, r2, r3, r4, r5, r6, r7, r8, r9, bL, bM) := h
 clear h
 have bO := aM H
 clear H
 go_enter Try.func145, Try.ntmps145
 go_upto_region 1 with (first | ((with_reducible refine gD (N := 2) rfl ?_); refine bE (N := 2) (cs := #[aD, aE, aG, aH, aI, aJ, aK, aN, aT, aV, aC]) (t := 79) ?_; intro bD hg w4 hbox hb; have aA := aM (hbox); have cL := gF hg HB; have cN := gF hg HB; replace HB := rS HB hb; clear hb hbox hg) | ((with_reducible refine gD (N := 4) rfl ?_); refine bE (N := 4) (cs := #[.bool false, .bool false, .int .i64 0, .int .i64 0, .int .i64 0, .int .i64 0, .int .i64 0, .int .i64 0, .int .i64 0, .int .i64 0, .bool false]) (t := 79) ?_; intro bA hg w5 hbox hb; have aQ := aM (hbox); have cO := gF hg HB; have cP := gF hg HB; have aW := nM hg aA; have aX := nH hg aA; replace aA := rB aA hb; replace HB := rS HB hb; clear hb hbox hg))
 (try simp only [Act.put, sA, sZ, sS])
 go_cut [17] (fun cE wc => ∃ (kq : Nat) (bG : Bool), cE = .bool bG ∧ Aside0 (Z20.j0 kq a1 bG aD aE aG aH aI aJ aK aN aT aV aC = some (r1, r2, r3, r4, r5, r6, r7, r8, r9, bL, bM)) ∧ Aside0 (kq ≤ k) ∧ Aside0 (wc.heap[bD]? = some (.cells #[aD, aE, aG, aH, aI, aJ, aK, aN, aT, aV, aC] 79 (0, 0))) ∧ Aside0 (wc.heap[bA]? = some (.cells #[.bool false, .bool false, .int .i64 0, .int .i64 0, .int .i64 0, .int .i64 0, .int .i64 0, .int .i64 0, .int .i64 0, .int .i64 0, .bool false] 79 (0, 0))) ∧ Aside0 (Below w.heap.size w wc))
 case first =>
  have H := bO.out
  clear bO
  by_cases c6 : aD = true
  case neg =>
   replace c6 := Bool.eq_false_iff.mpr c6
   subst c6
   replace H := hF H
   have H' := aM H
   clear H
   have cQ := aW.out
   have cR := aX.out
   have cS := cA11 aA.out
   go_wp2
   go_meet
   case rel => exact ⟨_, (true), xE, H', ⟨by first | omega | exact Nat.le_refl _⟩, ⟨bk aA.out⟩, ⟨bk aQ.out⟩, ⟨bl HB.out⟩⟩
  subst c6
  replace H := hP H rfl
  obtain ⟨bK, cC, H⟩ := hB H
  have A7 := aM cC
  clear cC
  by_cases c8 : bK = true
  case neg =>
   replace c8 := Bool.eq_false_iff.mpr c8
   subst c8
   replace H := hF H
   have H' := aM H
   clear H
   have cT := aW.out
   have cU := aX.out
   have cV := cA11 aA.out
   go_wp2_with (first | (go_at_call 86; (with_reducible refine (Z15.calls a1 1 3 false _ A7.out).mono ?_); rintro e w' ⟨rfl, ⟨nd, rfl⟩⟩))
   go_meet
   case rel => exact ⟨_, (true), xE, H', ⟨by first | omega | exact Nat.le_refl _⟩, ⟨bk aA.out⟩, ⟨bk aQ.out⟩, ⟨bl HB.out⟩⟩
  subst c8
  replace H := hP H rfl
  obtain ⟨bJ, cD, H⟩ := hB H
  have A9 := aM cD
  clear cD
  have H' := aM H
  clear H
  have cW := aW.out
  have cX := aX.out
  have cY := cA11 aA.out
  go_wp2_with (first | (go_at_call 86; (with_reducible refine (Z15.calls a1 1 3 true _ A7.out).mono ?_); rintro e w' ⟨rfl, ⟨nd, rfl⟩⟩) | (go_at_call 122; (with_reducible refine (Z11.calls k true aE aG aH aI aJ aK aN aT aV aC bJ _ A9.out).mono ?_); rintro e dV ⟨rfl, hb⟩; replace aA := rB aA hb; replace aQ := rB aQ hb; replace HB := rS HB hb; (try clear hb)))
  go_meet
  case rel => exact ⟨_, (!bJ), xE, H', ⟨by first | omega | exact Nat.le_refl _⟩, ⟨bk aA.out⟩, ⟨bk aQ.out⟩, ⟨bl HB.out⟩⟩
 case rest =>
  clear bO
  repeat first|clear c1|clear p2|clear c6|clear c8|clear dW|clear dX|clear dY|clear dZ
  obtain ⟨kq, bG, rfl, HA, HJ2, aA, aQ, HB⟩ := hcut
  cases kq with
  | zero => exact absurd HA.out (by simp [Z20.j0])
  | succ eA =>
   have H := HA.out
   clear HA
   simp only [Z20.j0] at H
   by_cases bN : bG = true
   case pos =>
    subst bN
    replace H := hP H rfl
    simp only [Option.some.injEq, Prod.mk.injEq] at H
    obtain ⟨rfl, rfl, rfl, rfl, rfl, rfl, rfl, rfl, rfl, rfl, rfl⟩ := H
    have dA := aW.out
    have dB := aX.out
    have dC := cA11 aA.out
    have dD := cA11 aQ.out
    go_wp2
    refine bodyPost_ret (results_cell_row rfl _ _ bA 79 #[aD, aE, aG, aH, aI, aJ, aK, aN, aT, aV, aC] (0, 0) _ rfl (bm aQ.out) Try.underlying79 rfl (by kernel_rfl)) rfl ?_
    exact ⟨xW, bl HB.out⟩
   replace bN := Bool.eq_false_iff.mpr bN
   subst bN
   replace H := hF H
   by_cases bH : a1 = 3
   case pos =>
    rw [if_pos bH] at H
    have bX : (a1 == 3) = true := beq_iff_eq.mpr bH
    have bY : (a1 != 3) = false := bne_eq_false_iff_eq.mpr bH
    clear bH
    obtain ⟨bP, bQ, H⟩ := hB H
    have cG := aM bQ
    clear bQ
    simp only [Option.some.injEq, Prod.mk.injEq] at H
    obtain ⟨rfl, rfl, rfl, rfl, rfl, rfl, rfl, rfl, rfl, rfl, rfl⟩ := H
    have dE := aW.out
    have dF := aX.out
    have dG := cA11 aA.out
    go_wp2_with (first | ((with_reducible refine gC (f := 180) rfl ?_); refine gL (some 31) Try.func180 #[.agg #[aD, aE, aG, aH, aI, aJ, aK, aN, a1, .int .i64 0, aC]] ?_; (with_reducible refine (Z46.calls aD aE aG aH aI aJ aK aN a1 0 aC bP _ cG.out).mono ?_); rintro e eB ⟨rfl, hb⟩; refine ⟨_, rfl, ?_⟩; replace aA := aM (bB (g := bD) (o := .cells #[aD, aE, aG, aH, aI, aJ, aK, aN, a1, .int .i64 0, aC] 79 (0, 0)) (by (with_reducible repeat (first | refine blk_drewN ?_ _ | refine blk_drew ?_ | refine blk_alloc ?_ _)); refine blk_put (cs := #[aD, aE, aG, aH, aI, aJ, aK, aN, aT, .int .i64 0, aC]) ?_ 8 _ rfl; (with_reducible repeat (first | refine blk_drewN ?_ _ | refine blk_drew ?_ | refine blk_alloc ?_ _)); refine blk_put (cs := #[aD, aE, aG, aH, aI, aJ, aK, aN, aT, aV, aC]) ?_ 9 _ rfl; (with_reducible repeat (first | refine blk_drewN ?_ _ | refine blk_drew ?_ | refine blk_alloc ?_ _)); exact aA.out) hb); replace aQ := aM (bB (fm aQ.out) hb); replace HB := rS HB hb; (try clear hb); have dH := cA11 aA.out; have dI := cA11 aQ.out))
    refine bodyPost_ret (results_cell_row rfl _ _ bA 79 #[aD, aE, aG, aH, aI, aJ, aK, aN, a1, .int .i64 0, bP] (0, 0) _ rfl (bm aQ.out) Try.underlying79 rfl (by kernel_rfl)) rfl ?_
    exact ⟨xW, bl HB.out⟩
   rw [if_neg bH] at H
   have bX : (a1 == 3) = false := beq_eq_false_iff_ne.mpr bH
   have bY : (a1 != 3) = true := bne_iff_ne.mpr bH
   by_cases bI : aT = 3
   case neg =>
    rw [if_neg bI] at H
    have bZ : (aT == 3) = false := beq_eq_false_iff_ne.mpr bI
    have cA : (aT != 3) = true := bne_iff_ne.mpr bI
    obtain ⟨bT, bU, H⟩ := hB H
    have cH := aM bU
    clear bU
    simp only [Option.some.injEq, Prod.mk.injEq] at H
    obtain ⟨rfl, rfl, rfl, rfl, rfl, rfl, rfl, rfl, rfl, rfl, rfl⟩ := H
    have dJ := aW.out
    have dK := aX.out
    have dL := cA11 aA.out
    go_wp2_with (first | ((with_reducible refine gC (f := 180) rfl ?_); refine gL (some 31) Try.func180 #[.agg #[aD, aE, aG, aH, aI, aJ, aK, aN, a1, aV, aC]] ?_; (with_reducible refine (Z46.calls aD aE aG aH aI aJ aK aN a1 aV aC bT _ cH.out).mono ?_); rintro e eC ⟨rfl, hb⟩; refine ⟨_, rfl, ?_⟩; replace aA := aM (bB (g := bD) (o := .cells #[aD, aE, aG, aH, aI, aJ, aK, aN, a1, aV, aC] 79 (0, 0)) (by (with_reducible repeat (first | refine blk_drewN ?_ _ | refine blk_drew ?_ | refine blk_alloc ?_ _)); refine blk_put (cs := #[aD, aE, aG, aH, aI, aJ, aK, aN, aT, aV, aC]) ?_ 8 _ rfl; (with_reducible repeat (first | refine blk_drewN ?_ _ | refine blk_drew ?_ | refine blk_alloc ?_ _)); exact aA.out) hb); replace aQ := aM (bB (fm aQ.out) hb); replace HB := rS HB hb; (try clear hb); have dM := cA11 aA.out; have dN := cA11 aQ.out))
    refine bodyPost_ret (results_cell_row rfl _ _ bA 79 #[aD, aE, aG, aH, aI, aJ, aK, aN, a1, aV, bT] (0, 0) _ rfl (bm aQ.out) Try.underlying79 rfl (by kernel_rfl)) rfl ?_
    exact ⟨xW, bl HB.out⟩
   rw [if_pos bI] at H
   have bZ : (aT == 3) = true := beq_iff_eq.mpr bI
   have cA : (aT != 3) = false := bne_eq_false_iff_eq.mpr bI
   clear bI
   obtain ⟨bV, bW, H⟩ := hB H
   have cK := aM bW
   clear bW
   simp only [Option.some.injEq, Prod.mk.injEq] at H
   obtain ⟨rfl, rfl, rfl, rfl, rfl, rfl, rfl, rfl, rfl, rfl, rfl⟩ := H
   have dO := aW.out
   have dP := aX.out
   have dQ := cA11 aA.out
   go_wp2_with (first | ((with_reducible refine gC (f := 180) rfl ?_); refine gL (some 31) Try.func180 #[.agg #[aD, aE, aG, aH, aI, aJ, aK, aN, a1, .int .i64 4, aC]] ?_; (with_reducible refine (Z46.calls aD aE aG aH aI aJ aK aN a1 4 aC bV _ cK.out).mono ?_); rintro e eD ⟨rfl, hb⟩; refine ⟨_, rfl, ?_⟩; replace aA := aM (bB (g := bD) (o := .cells #[aD, aE, aG, aH, aI, aJ, aK, aN, a1, .int .i64 4, aC] 79 (0, 0)) (by (with_reducible repeat (first | refine blk_drewN ?_ _ | refine blk_drew ?_ | refine blk_alloc ?_ _)); refine blk_put (cs := #[aD, aE, aG, aH, aI, aJ, aK, aN, aT, .int .i64 4, aC]) ?_ 8 _ rfl; (with_reducible repeat (first | refine blk_drewN ?_ _ | refine blk_drew ?_ | refine blk_alloc ?_ _)); refine blk_put (cs := #[aD, aE, aG, aH, aI, aJ, aK, aN, aT, aV, aC]) ?_ 9 _ rfl; (with_reducible repeat (first | refine blk_drewN ?_ _ | refine blk_drew ?_ | refine blk_alloc ?_ _)); exact aA.out) hb); replace aQ := aM (bB (fm aQ.out) hb); replace HB := rS HB hb; (try clear hb); have dR := cA11 aA.out; have dS := cA11 aQ.out))
   refine bodyPost_ret (results_cell_row rfl _ _ bA 79 #[aD, aE, aG, aH, aI, aJ, aK, aN, a1, .int .i64 4, bV] (0, 0) _ rfl (bm aQ.out) Try.underlying79 rfl (by kernel_rfl)) rfl ?_
   exact ⟨xW, bl HB.out⟩

end Go.Proofs.Ythmijfekdeagpaa.PFnExactReact
