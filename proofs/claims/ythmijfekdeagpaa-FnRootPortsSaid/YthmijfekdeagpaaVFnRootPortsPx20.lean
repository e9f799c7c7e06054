/- Of the proof of laws.FnRootPorts: a part. No condition beyond what its theorems say. -/
import Derived.Test.YthmijfekdeagpaaVFnRootPortsPx5
namespace Go.Proofs.Ythmijfekdeagpaa.PFnRootPorts
open Go.RowKit Go.Proofs.YthmijfekdeagpaaW.PrintWords Go.Proofs.YthmijfekdeagpaaW.PrintLast Go.Proofs.YthmijfekdeagpaaW.PrintMore
attribute [local go_sem] max2_int min2_int max_two min_two max_three min_three max_four min_four   -- for this text's walks alone
set_option linter.unusedVariables false
set_option linter.unusedSimpArgs false

def spec_Fade.j0 : Nat → Bool → Bool → Bool → Int → Int → Int → Int → Int → Int → Int → Int → Bool → Option (Bool × Bool × Int × Int × Int × Int × Int × Int × Int × Int × Bool)
 | 0, _, _, _, _, _, _, _, _, _, _, _, _ => none
 | k + 1, aT, aC, aH, aI, aJ, aK, aN, aQ, aA, aD, aE, aG => if aT = true then (some (aC, aH, aI, aJ, aK, aN, aQ, aA, aD, aE, aG)) else (if (wrap64 (aA - 1)) = 0 then (some (aC, false, 0, 0, 0, 0, 0, wrap64 (aA - 1), aD, aE, aG)) else (some (aC, aH, aI, aJ, aK, aN, aQ, wrap64 (aA - 1), aD, aE, aG)))
def spec_Fade.f (k : Nat) (aD : Bool) (aA : Bool) (aE : Int) (aG : Int) (aH : Int) (aI : Int) (aJ : Int) (aK : Int) (aN : Int) (aQ : Int) (aC : Bool) : Option (Bool × Bool × Int × Int × Int × Int × Int × Int × Int × Int × Bool) := (spec_PortOk.f k aD aA aE aG aH aI aJ aK aN aQ aC).bind fun aT => (if aT = true then (spec_Fade.j0 k (!aA) aD aA aE aG aH aI aJ aK aN aQ aC) else (spec_Fade.j0 k true aD aA aE aG aH aI aJ aK aN aQ aC))
theorem spec_Fade.mono_l : ∀ k, (∀ y0 y1 y2 y3 y4 y5 y6 y7 y8 y9 aA aC, LeO (spec_Fade.j0 k y0 y1 y2 y3 y4 y5 y6 y7 y8 y9 aA aC) (spec_Fade.j0 (k + 1) y0 y1 y2 y3 y4 y5 y6 y7 y8 y9 aA aC))
 | 0 => fun _ _ _ _ _ _ _ _ _ _ _ _ r h => by simp [spec_Fade.j0] at h
 | k + 1 => by
  have ih0 := spec_Fade.mono_l k
  ·intro y0 y1 y2 y3 y4 y5 y6 y7 y8 y9 aA aC
   unfold spec_Fade.j0
   repeat' first|(with_reducible first|apply ih0|apply spec_PortOk.mono|exact LeO.refl _|exact LeO.none _|refine LeO.ite ?_ ?_|refine LeO.bind ?_ (fun _ => ?_))|exact LeO.none _|refine LeO.ite ?_ ?_|refine LeO.bind ?_ (fun _ => ?_)
theorem spec_Fade.mono : ∀ a0 a1 a2 a3 a4 a5 a6 a7 a8 a9 aA k, LeO (spec_Fade.f k a0 a1 a2 a3 a4 a5 a6 a7 a8 a9 aA) (spec_Fade.f (k + 1) a0 a1 a2 a3 a4 a5 a6 a7 a8 a9 aA) := by
 intro a0 a1 a2 a3 a4 a5 a6 a7 a8 a9 aA k
 have ih0 := spec_Fade.mono_l k
 unfold spec_Fade.f
 repeat' first|(with_reducible first|apply ih0|apply spec_PortOk.mono|exact LeO.refl _|exact LeO.none _|refine LeO.ite ?_ ?_|refine LeO.bind ?_ (fun _ => ?_))|exact LeO.none _|refine LeO.ite ?_ ?_|refine LeO.bind ?_ (fun _ => ?_)
set_option maxHeartbeats 60000000 in
set_option maxRecDepth 100000 in
theorem spec_Fade.calls (k : Nat) (aH : Bool) (aG : Bool) (aK : Int) (aN : Int) (aQ : Int) (aT : Int) (aV : Int) (aC : Int) (aI : Int) (aJ : Int) (aD : Bool) (r1 : Bool) (r2 : Bool) (r3 : Int) (r4 : Int) (r5 : Int) (r6 : Int) (r7 : Int) (r8 : Int) (r9 : Int) (bH : Int) (bI : Bool) (w : World) (h : spec_Fade.f k aH aG aK aN aQ aT aV aC aI aJ aD = some (r1, r2, r3, r4, r5, r6, r7, r8, r9, bH, bI)) :
  Calls Try.prog 177 #[.agg #[aH, aG, aK, aN, aQ, aT, aV, aC, aI, aJ, aD]] w fun e w' => e = .returned (.agg #[r1, r2, r3, r4, r5, r6, r7, r8, r9, bH, bI]) ∧ Below w.heap.size w w' := by
 have eJ := Try.underlying79
 have eK := Try.underlying73
 have HB := aM (Below.refl w.heap.size w)
 have H : ((spec_PortOk.f k aH aG aK aN aQ aT aV aC aI aJ aD).bind fun bG => (if bG = true then (spec_Fade.j0 k (!aG) aH aG aK aN aQ aT aV aC aI aJ aD) else (spec_Fade.j0 k true aH aG aK aN aQ aT aV aC aI aJ aD))) = some (r1, r2, r3, r4, r5, r6, r7, r8, r9, bH, bI) := h
 clear h
 have bK := aM H
 clear H
 go_enter Try.func177, Try.ntmps177
 go_upto_region 1 with (first | ((with_reducible refine gD (N := 1) rfl ?_); refine bE (N := 1) (cs := #[aH, aG, aK, aN, aQ, aT, aV, aC, aI, aJ, aD]) (t := 79) ?_; intro bL hg w3 hbox hb; have aA := aM (hbox); have dQ := gF hg HB; have dR := gF hg HB; replace HB := rS HB hb; clear hb hbox hg) | ((with_reducible refine gD (N := 2) rfl ?_); refine bE (N := 2) (cs := #[.bool false, .bool false, .int .i64 0, .int .i64 0, .int .i64 0, .int .i64 0, .int .i64 0, .int .i64 0, .int .i64 0, .int .i64 0, .bool false]) (t := 79) ?_; intro aZ hg w4 hbox hb; have aE := aM (hbox); have dS := gF hg HB; have dU := gF hg HB; have aW := nM hg aA; have aX := nH hg aA; replace aA := rB aA hb; replace HB := rS HB hb; clear hb hbox hg))
 (try simp only [Act.put, sA, sZ, sS])
 go_cut [10] (fun cV wc => ∃ (kq : Nat) (bA : Bool), cV = .bool bA ∧ Aside0 (spec_Fade.j0 kq bA aH aG aK aN aQ aT aV aC aI aJ aD = some (r1, r2, r3, r4, r5, r6, r7, r8, r9, bH, bI)) ∧ Aside0 (kq ≤ k) ∧ Aside0 (wc.heap[bL]? = some (.cells #[aH, aG, aK, aN, aQ, aT, aV, aC, aI, aJ, aD] 79 (0, 0))) ∧ Aside0 (wc.heap[aZ]? = some (.cells #[.bool false, .bool false, .int .i64 0, .int .i64 0, .int .i64 0, .int .i64 0, .int .i64 0, .int .i64 0, .int .i64 0, .int .i64 0, .bool false] 79 (0, 0))) ∧ Aside0 (Below w.heap.size w wc))
 case first =>
  have H := bK.out
  clear bK
  obtain ⟨bG, bQ, H⟩ := hB H
  have A5 := aM bQ
  clear bQ
  by_cases c6 : bG = true
  case pos =>
   subst c6
   replace H := hP H rfl
   have H' := aM H
   clear H
   have eL := aW.out
   have eM := aX.out
   have bR := cA11 aA.out
   go_wp2_with (first | ((with_reducible refine gC (f := 123) rfl ?_); refine gL (some 4) Try.func123 #[.agg #[aH, aG, aK, aN, aQ, aT, aV, aC, aI, aJ, aD]] ?_; (with_reducible refine (spec_PortOk.calls k aH aG aK aN aQ aT aV aC aI aJ aD true _ A5.out).mono ?_); rintro e w9 ⟨rfl, hb⟩; refine ⟨_, rfl, ?_⟩; replace aA := rB aA hb; replace aE := rB aE hb; replace HB := rS HB hb; (try clear hb); have bM := cA11 aA.out))
   go_meet
   case rel => exact ⟨_, (!aG), xE, H', ⟨by first | omega | exact Nat.le_refl _⟩, ⟨bk aA.out⟩, ⟨bk aE.out⟩, ⟨bl HB.out⟩⟩
  replace c6 := Bool.eq_false_iff.mpr c6
  subst c6
  replace H := hF H
  have H' := aM H
  clear H
  have dV := aW.out
  have dW := aX.out
  have bN := cA11 aA.out
  go_wp2_with (first | ((with_reducible refine gC (f := 123) rfl ?_); refine gL (some 4) Try.func123 #[.agg #[aH, aG, aK, aN, aQ, aT, aV, aC, aI, aJ, aD]] ?_; (with_reducible refine (spec_PortOk.calls k aH aG aK aN aQ aT aV aC aI aJ aD false _ A5.out).mono ?_); rintro e eN ⟨rfl, hb⟩; refine ⟨_, rfl, ?_⟩; replace aA := rB aA hb; replace aE := rB aE hb; replace HB := rS HB hb; (try clear hb)))
  go_meet
  case rel => exact ⟨_, (true), xE, H', ⟨by first | omega | exact Nat.le_refl _⟩, ⟨bk aA.out⟩, ⟨bk aE.out⟩, ⟨bl HB.out⟩⟩
 case rest =>
  clear bK
  repeat first|clear c1|clear p2|clear c6|clear c7|clear eO|clear eP|clear bM|clear bN|clear bV|clear bT|clear bW|clear bX|clear bY|clear bZ|clear cA|clear cC|clear cD|clear cE|clear bR|clear cW|clear cG|clear cX|clear cY|clear dA|clear dB|clear dC|clear dD|clear dE|clear dF|clear cH|clear cK|clear bU|clear cL|clear cN|clear cO|clear cP|clear cQ|clear cR|clear cS|clear cT|clear dG|clear dH|clear cU|clear dI|clear dJ|clear dK|clear dL|clear dM|clear dN|clear dO|clear dP
  obtain ⟨kq, bA, rfl, HA, HJ1, aA, aE, HB⟩ := hcut
  cases kq with
  | zero => exact absurd HA.out (by simp [spec_Fade.j0])
  | succ eQ =>
   have H := HA.out
   clear HA
   simp only [spec_Fade.j0] at H
   by_cases bJ : bA = true
   case pos =>
    subst bJ
    replace H := hP H rfl
    simp only [Option.some.injEq, Prod.mk.injEq] at H
    obtain ⟨rfl, rfl, rfl, rfl, rfl, rfl, rfl, rfl, rfl, rfl, rfl⟩ := H
    have dX := aW.out
    have dY := aX.out
    have dZ := cA11 aA.out
    have eA := cA11 aE.out
    go_wp2
    refine bodyPost_ret (results_cell_row rfl _ _ aZ 79 #[aH, aG, aK, aN, aQ, aT, aV, aC, aI, aJ, aD] (0, 0) _ rfl (bm aE.out) Try.underlying79 rfl (by kernel_rfl)) rfl ?_
    exact ⟨xW, bl HB.out⟩
   replace bJ := Bool.eq_false_iff.mpr bJ
   subst bJ
   replace H := hF H
   by_cases bD : (wrap64 (aC - 1)) = 0
   case neg =>
    rw [if_neg bD] at H
    have bO : ((wrap64 (aC - 1)) == 0) = false := beq_eq_false_iff_ne.mpr bD
    have bP : ((wrap64 (aC - 1)) != 0) = true := bne_iff_ne.mpr bD
    simp only [Option.some.injEq, Prod.mk.injEq] at H
    obtain ⟨rfl, rfl, rfl, rfl, rfl, rfl, rfl, rfl, rfl, rfl, rfl⟩ := H
    have eB := aW.out
    have eC := aX.out
    have eD := cA11 aA.out
    have eE := cA11 aE.out
    go_wp2
    refine bodyPost_ret (results_cell_row rfl _ _ aZ 79 #[aH, aG, aK, aN, aQ, aT, aV, .int .i64 (wrap64 (aC - 1)), aI, aJ, aD] (0, 0) _ rfl (bm aE.out) Try.underlying79 rfl (by kernel_rfl)) rfl ?_
    exact ⟨xW, bl HB.out⟩
   rw [if_pos bD] at H
   have bO : ((wrap64 (aC - 1)) == 0) = true := beq_iff_eq.mpr bD
   have bP : ((wrap64 (aC - 1)) != 0) = false := bne_eq_false_iff_eq.mpr bD
   clear bD
   simp only [Option.some.injEq, Prod.mk.injEq] at H
   obtain ⟨rfl, rfl, rfl, rfl, rfl, rfl, rfl, rfl, rfl, rfl, rfl⟩ := H
   have eF := aW.out
   have eG := aX.out
   have eH := cA11 aA.out
   have eI := cA11 aE.out
   go_wp2
   refine bodyPost_ret (results_cell_row rfl _ _ aZ 79 #[aH, .bool false, .int .i64 0, .int .i64 0, .int .i64 0, .int .i64 0, .int .i64 0, .int .i64 (wrap64 (aC - 1)), aI, aJ, aD] (0, 0) _ rfl (bm aE.out) Try.underlying79 rfl (by kernel_rfl)) rfl ?_
   exact ⟨xW, bl HB.out⟩

end Go.Proofs.Ythmijfekdeagpaa.PFnRootPorts
