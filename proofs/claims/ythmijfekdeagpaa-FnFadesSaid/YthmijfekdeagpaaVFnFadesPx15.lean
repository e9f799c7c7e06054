/- A part of the proof of laws.FnFades. No condition beyond what its theorems say. -/
import Derived.Test.YthmijfekdeagpaaVFnFadesPx8
namespace Go.Proofs.Ythmijfekdeagpaa.PFnFades
open Go.RowKit Go.Proofs.YthmijfekdeagpaaW.PrintWords Go.Proofs.YthmijfekdeagpaaW.PrintLast Go.Proofs.YthmijfekdeagpaaW.PrintMore
set_option linter.unusedVariables false
set_option linter.unusedSimpArgs false

def spec_Fade.j0 : Nat → Bool → Bool → Bool → Int → Int → Int → Int → Int → Int → Int → Int → Bool → Option (Bool × Bool × Int × Int × Int × Int × Int × Int × Int × Int × Bool)
 | 0, _, _, _, _, _, _, _, _, _, _, _, _ => none
 | k + 1, aT, aC, aH, aI, aJ, aK, aN, aQ, aA, aD, aE, aG => if aT = true then (some (aC, aH, aI, aJ, aK, aN, aQ, aA, aD, aE, aG)) else (if (wrap64 (aA - 1)) = 0 then (some (aC, false, 0, 0, 0, 0, 0, wrap64 (aA - 1), aD, aE, aG)) else (some (aC, aH, aI, aJ, aK, aN, aQ, wrap64 (aA - 1), aD, aE, aG)))
def spec_Fade.f (k : Nat) (aD aA : Bool) (aE aG aH aI aJ aK aN aQ : Int) (aC : Bool) : Option (Bool × Bool × Int × Int × Int × Int × Int × Int × Int × Int × Bool) := (spec_PortOk.f k aD aA aE aG aH aI aJ aK aN aQ aC).bind fun aT => (if aT = true then (spec_Fade.j0 k (!aA) aD aA aE aG aH aI aJ aK aN aQ aC) else (spec_Fade.j0 k true aD aA aE aG aH aI aJ aK aN aQ aC))
theorem spec_Fade.mono_l : ∀ k, (∀ y0 y1 y2 y3 y4 y5 y6 y7 y8 y9 aA aC, LeO (spec_Fade.j0 k y0 y1 y2 y3 y4 y5 y6 y7 y8 y9 aA aC) (spec_Fade.j0 (k + 1) y0 y1 y2 y3 y4 y5 y6 y7 y8 y9 aA aC))
 | 0 => fun _ _ _ _ _ _ _ _ _ _ _ _ r h => by simp [spec_Fade.j0] at h
 | k + 1 => by
  have ih0 := spec_Fade.mono_l k
  ·intro y0 y1 y2 y3 y4 y5 y6 y7 y8 y9 aA aC
   unfold spec_Fade.j0
   repeat' first|(with_reducible first|apply ih0|apply spec_PortOk.mono|exact lR _|exact lN _|refine lI ?_ ?_|refine lB ?_ fun _ => ?_)|exact lN _|refine lI ?_ ?_|refine lB ?_ fun _ => ?_
theorem spec_Fade.mono : ∀ a0 a1 a2 a3 a4 a5 a6 a7 a8 a9 aA k, LeO (spec_Fade.f k a0 a1 a2 a3 a4 a5 a6 a7 a8 a9 aA) (spec_Fade.f (k + 1) a0 a1 a2 a3 a4 a5 a6 a7 a8 a9 aA) := by
 intro a0 a1 a2 a3 a4 a5 a6 a7 a8 a9 aA k
 have ih0 := spec_Fade.mono_l k
 unfold spec_Fade.f
 repeat' first|(with_reducible first|apply ih0|apply spec_PortOk.mono|exact lR _|exact lN _|refine lI ?_ ?_|refine lB ?_ fun _ => ?_)|exact lN _|refine lI ?_ ?_|refine lB ?_ fun _ => ?_
set_option maxHeartbeats 60000000 in
set_option maxRecDepth 100000 in
theorem spec_Fade.calls (k : Nat) (aH aG : Bool) (aK aN aQ aT aV aC aI aJ : Int) (aD r1 r2 : Bool) (r3 r4 r5 r6 r7 r8 r9 bI : Int) (bJ : Bool) (w : World) (h : spec_Fade.f k aH aG aK aN aQ aT aV aC aI aJ aD = some (r1, r2, r3, r4, r5, r6, r7, r8, r9, bI, bJ)) :
  Calls Try.prog 177 #[.agg #[aH, aG, aK, aN, aQ, aT, aV, aC, aI, aJ, aD]] w fun e w' => e = .returned (.agg #[r1, r2, r3, r4, r5, r6, r7, r8, r9, bI, bJ]) ∧ Below w.heap.size w w' := by
 have cS := Try.underlying79
 have cT := Try.underlying73
 have HB := aM (Below.refl w.heap.size w)
 have H : ((spec_PortOk.f k aH aG aK aN aQ aT aV aC aI aJ aD).bind fun bH => (if bH = true then (spec_Fade.j0 k (!aG) aH aG aK aN aQ aT aV aC aI aJ aD) else (spec_Fade.j0 k true aH aG aK aN aQ aT aV aC aI aJ aD))) = some (r1, r2, r3, r4, r5, r6, r7, r8, r9, bI, bJ) := h
 clear h
 have bL := aM H
 clear H
 go_enter Try.func177, Try.ntmps177
 go_upto_region 1 with (first | ((with_reducible refine gD (N := 1) rfl ?_); refine bE (N := 1) (cs := #[aH, aG, aK, aN, aQ, aT, aV, aC, aI, aJ, aD]) (t := 79) ?_; intro bM hg w3 hbox hb; have aA := aM (hbox); have bT := gF hg HB; have bU := gF hg HB; replace HB := rS HB hb; clear hb hbox hg) | ((with_reducible refine gD (N := 2) rfl ?_); refine bE (N := 2) (cs := #[.bool false, .bool false, .int .i64 0, .int .i64 0, .int .i64 0, .int .i64 0, .int .i64 0, .int .i64 0, .int .i64 0, .int .i64 0, .bool false]) (t := 79) ?_; intro bA hg w4 hbox hb; have aE := aM (hbox); have bV := gF hg HB; have bW := gF hg HB; have aW := nM hg aA; have aX := nH hg aA; replace aA := rB aA hb; replace HB := rS HB hb; clear hb hbox hg))
 (try simp only [Act.put, sA, sZ, sS])
 go_cut [10] (fun bQ wc => ∃ (kq : Nat) (bD : Bool), bQ = .bool bD ∧ Aside0 (spec_Fade.j0 kq bD aH aG aK aN aQ aT aV aC aI aJ aD = some (r1, r2, r3, r4, r5, r6, r7, r8, r9, bI, bJ)) ∧ Aside0 (kq ≤ k) ∧ Aside0 (wc.heap[bM]? = some (.cells #[aH, aG, aK, aN, aQ, aT, aV, aC, aI, aJ, aD] 79 (0, 0))) ∧ Aside0 (wc.heap[bA]? = some (.cells #[.bool false, .bool false, .int .i64 0, .int .i64 0, .int .i64 0, .int .i64 0, .int .i64 0, .int .i64 0, .int .i64 0, .int .i64 0, .bool false] 79 (0, 0))) ∧ Aside0 (Below w.heap.size w wc))
 case first =>
  have H := bL.out
  clear bL
  obtain ⟨bH, bP, H⟩ := hB H
  have A5 := aM bP
  clear bP
  by_cases c6 : bH = true
  case pos =>
   subst c6
   replace H := hP H rfl
   have H' := aM H
   clear H
   have cU := aW.out
   have cV := aX.out
   have cW := cA11 aA.out
   go_wp2_with (first | ((with_reducible refine gC (f := 123) rfl ?_); refine gL (some 4) Try.func123 #[.agg #[aH, aG, aK, aN, aQ, aT, aV, aC, aI, aJ, aD]] ?_; (with_reducible refine (spec_PortOk.calls k aH aG aK aN aQ aT aV aC aI aJ aD true _ A5.out).mono ?_); rintro e w9 ⟨rfl, hb⟩; refine ⟨_, rfl, ?_⟩; replace aA := rB aA hb; replace aE := rB aE hb; replace HB := rS HB hb; (try clear hb); have bX := cA11 aA.out))
   go_meet
   case rel => exact ⟨_, (!aG), xE, H', ⟨by first | omega | exact Nat.le_refl _⟩, ⟨bk aA.out⟩, ⟨bk aE.out⟩, ⟨bl HB.out⟩⟩
  replace c6 := Bool.eq_false_iff.mpr c6
  subst c6
  replace H := hF H
  have H' := aM H
  clear H
  have bY := aW.out
  have bZ := aX.out
  have cA := cA11 aA.out
  go_wp2_with (first | ((with_reducible refine gC (f := 123) rfl ?_); refine gL (some 4) Try.func123 #[.agg #[aH, aG, aK, aN, aQ, aT, aV, aC, aI, aJ, aD]] ?_; (with_reducible refine (spec_PortOk.calls k aH aG aK aN aQ aT aV aC aI aJ aD false _ A5.out).mono ?_); rintro e cX ⟨rfl, hb⟩; refine ⟨_, rfl, ?_⟩; replace aA := rB aA hb; replace aE := rB aE hb; replace HB := rS HB hb; (try clear hb)))
  go_meet
  case rel => exact ⟨_, (true), xE, H', ⟨by first | omega | exact Nat.le_refl _⟩, ⟨bk aA.out⟩, ⟨bk aE.out⟩, ⟨bl HB.out⟩⟩
 case rest =>
  clear bL
  repeat first|clear c1|clear p2|clear c6|clear c7|clear cY|clear dA
  obtain ⟨kq, bD, rfl, HA, HJ1, aA, aE, HB⟩ := hcut
  cases kq with
  | zero => exact absurd HA.out (by simp [spec_Fade.j0])
  | succ dB =>
   have H := HA.out
   clear HA
   simp only [spec_Fade.j0] at H
   by_cases bK : bD = true
   case pos =>
    subst bK
    replace H := hP H rfl
    simp only [Option.some.injEq, Prod.mk.injEq] at H
    obtain ⟨rfl, rfl, rfl, rfl, rfl, rfl, rfl, rfl, rfl, rfl, rfl⟩ := H
    have cC := aW.out
    have cD := aX.out
    have cE := cA11 aA.out
    have cG := cA11 aE.out
    go_wp2
    refine bodyPost_ret (results_cell_row rfl _ _ bA 79 #[aH, aG, aK, aN, aQ, aT, aV, aC, aI, aJ, aD] (0, 0) _ rfl (bm aE.out) Try.underlying79 rfl (by kernel_rfl)) rfl ?_
    exact ⟨xW, bl HB.out⟩
   replace bK := Bool.eq_false_iff.mpr bK
   subst bK
   replace H := hF H
   by_cases bG : (wrap64 (aC - 1)) = 0
   case neg =>
    rw [if_neg bG] at H
    have bN : ((wrap64 (aC - 1)) == 0) = false := beq_eq_false_iff_ne.mpr bG
    have bO : ((wrap64 (aC - 1)) != 0) = true := bne_iff_ne.mpr bG
    simp only [Option.some.injEq, Prod.mk.injEq] at H
    obtain ⟨rfl, rfl, rfl, rfl, rfl, rfl, rfl, rfl, rfl, rfl, rfl⟩ := H
    have cH := aW.out
    have cK := aX.out
    have cL := cA11 aA.out
    have cN := cA11 aE.out
    go_wp2
    refine bodyPost_ret (results_cell_row rfl _ _ bA 79 #[aH, aG, aK, aN, aQ, aT, aV, .int .i64 (wrap64 (aC - 1)), aI, aJ, aD] (0, 0) _ rfl (bm aE.out) Try.underlying79 rfl (by kernel_rfl)) rfl ?_
    exact ⟨xW, bl HB.out⟩
   rw [if_pos bG] at H
   have bN : ((wrap64 (aC - 1)) == 0) = true := beq_iff_eq.mpr bG
   have bO : ((wrap64 (aC - 1)) != 0) = false := bne_eq_false_iff_eq.mpr bG
   clear bG
   simp only [Option.some.injEq, Prod.mk.injEq] at H
   obtain ⟨rfl, rfl, rfl, rfl, rfl, rfl, rfl, rfl, rfl, rfl, rfl⟩ := H
   have cO := aW.out
   have cP := aX.out
   have cQ := cA11 aA.out
   have cR := cA11 aE.out
   go_wp2
   refine bodyPost_ret (results_cell_row rfl _ _ bA 79 #[aH, .bool false, .int .i64 0, .int .i64 0, .int .i64 0, .int .i64 0, .int .i64 0, .int .i64 (wrap64 (aC - 1)), aI, aJ, aD] (0, 0) _ rfl (bm aE.out) Try.underlying79 rfl (by kernel_rfl)) rfl ?_
   exact ⟨xW, bl HB.out⟩

end Go.Proofs.Ythmijfekdeagpaa.PFnFades
