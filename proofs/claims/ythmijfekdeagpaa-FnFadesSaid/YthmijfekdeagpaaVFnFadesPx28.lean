/- A part of the proof of laws.FnFades. No condition beyond what its theorems say. -/
import Derived.Test.YthmijfekdeagpaaVFnFadesPx4
namespace Go.Proofs.Ythmijfekdeagpaa.PFnFades
open Go.RowKit Go.Proofs.YthmijfekdeagpaaW.PrintWords Go.Proofs.YthmijfekdeagpaaW.PrintLast Go.Proofs.YthmijfekdeagpaaW.PrintMore
set_option linter.unusedVariables false
set_option linter.unusedSimpArgs false

def impl_Fade.j0 : Nat → Bool → Bool → Bool → Int → Int → Int → Int → Int → Int → Int → Int → Bool → Option (Bool × Bool × Int × Int × Int × Int × Int × Int × Int × Int × Bool)
 | 0, _, _, _, _, _, _, _, _, _, _, _, _ => none
 | k + 1, aT, aC, aH, aI, aJ, aK, aN, aQ, aA, aD, aE, aG => if aT = true then (some (aC, aH, aI, aJ, aK, aN, aQ, aA, aD, aE, aG)) else (if (wrap64 (aA - 1)) = 0 then (some (aC, false, 0, 0, 0, 0, 0, wrap64 (aA - 1), aD, aE, aG)) else (some (aC, aH, aI, aJ, aK, aN, aQ, wrap64 (aA - 1), aD, aE, aG)))
def impl_Fade.f (k : Nat) (aD aA : Bool) (aE aG aH aI aJ aK aN aQ : Int) (aC : Bool) : Option (Bool × Bool × Int × Int × Int × Int × Int × Int × Int × Int × Bool) := if aA = true then ((impl_PortOk.f k aD aA aE aG aH aI aJ aK aN aQ aC).bind fun aT => (impl_Fade.j0 k (!aT) aD aA aE aG aH aI aJ aK aN aQ aC)) else (impl_Fade.j0 k true aD aA aE aG aH aI aJ aK aN aQ aC)
theorem impl_Fade.mono_l : ∀ k, (∀ y0 y1 y2 y3 y4 y5 y6 y7 y8 y9 aA aC, LeO (impl_Fade.j0 k y0 y1 y2 y3 y4 y5 y6 y7 y8 y9 aA aC) (impl_Fade.j0 (k + 1) y0 y1 y2 y3 y4 y5 y6 y7 y8 y9 aA aC))
 | 0 => fun _ _ _ _ _ _ _ _ _ _ _ _ r h => by simp [impl_Fade.j0] at h
 | k + 1 => by
  have ih0 := impl_Fade.mono_l k
  ·intro y0 y1 y2 y3 y4 y5 y6 y7 y8 y9 aA aC
   unfold impl_Fade.j0
   repeat' first|(with_reducible first|apply ih0|apply impl_PortOk.mono|exact lR _|exact lN _|refine lI ?_ ?_|refine lB ?_ fun _ => ?_)|exact lN _|refine lI ?_ ?_|refine lB ?_ fun _ => ?_
theorem impl_Fade.mono : ∀ a0 a1 a2 a3 a4 a5 a6 a7 a8 a9 aA k, LeO (impl_Fade.f k a0 a1 a2 a3 a4 a5 a6 a7 a8 a9 aA) (impl_Fade.f (k + 1) a0 a1 a2 a3 a4 a5 a6 a7 a8 a9 aA) := by
 intro a0 a1 a2 a3 a4 a5 a6 a7 a8 a9 aA k
 have ih0 := impl_Fade.mono_l k
 unfold impl_Fade.f
 repeat' first|(with_reducible first|apply ih0|apply impl_PortOk.mono|exact lR _|exact lN _|refine lI ?_ ?_|refine lB ?_ fun _ => ?_)|exact lN _|refine lI ?_ ?_|refine lB ?_ fun _ => ?_
set_option maxHeartbeats 60000000 in
set_option maxRecDepth 100000 in
theorem impl_Fade.calls (k : Nat) (aI aJ : Bool) (aQ aT aV aW aX aC aK aN : Int) (aD r1 r2 : Bool) (r3 r4 r5 r6 r7 r8 r9 bI : Int) (bJ : Bool) (w : World) (h : impl_Fade.f k aI aJ aQ aT aV aW aX aC aK aN aD = some (r1, r2, r3, r4, r5, r6, r7, r8, r9, bI, bJ)) :
  Calls Try.prog 196 #[.agg #[aI, aJ, aQ, aT, aV, aW, aX, aC, aK, aN, aD]] w fun e w' => e = .returned (.agg #[r1, r2, r3, r4, r5, r6, r7, r8, r9, bI, bJ]) ∧ Below w.heap.size w w' := by
 have cR := Try.underlying79
 have cS := Try.underlying73
 have HB := aM (Below.refl w.heap.size w)
 have H : (if aJ = true then ((impl_PortOk.f k aI aJ aQ aT aV aW aX aC aK aN aD).bind fun bH => (impl_Fade.j0 k (!bH) aI aJ aQ aT aV aW aX aC aK aN aD)) else (impl_Fade.j0 k true aI aJ aQ aT aV aW aX aC aK aN aD)) = some (r1, r2, r3, r4, r5, r6, r7, r8, r9, bI, bJ) := h
 clear h
 have bL := aM H
 clear H
 go_enter Try.func196, Try.ntmps196
 go_upto_region 1 with (first | ((with_reducible refine gD (N := 1) rfl ?_); refine bE (N := 1) (cs := #[aI, aJ, aQ, aT, aV, aW, aX, aC, aK, aN, aD]) (t := 79) ?_; intro bM hg w3 hbox hb; have aA := aM (hbox); have bT := gF hg HB; have bU := gF hg HB; replace HB := rS HB hb; clear hb hbox hg) | ((with_reducible refine gD (N := 2) rfl ?_); refine bE (N := 2) (cs := #[.bool false, .bool false, .int .i64 0, .int .i64 0, .int .i64 0, .int .i64 0, .int .i64 0, .int .i64 0, .int .i64 0, .int .i64 0, .bool false]) (t := 79) ?_; intro bA hg w4 hbox hb; have aE := aM (hbox); have bV := gF hg HB; have bW := gF hg HB; have aG := nM hg aA; have aH := nH hg aA; replace aA := rB aA hb; replace HB := rS HB hb; clear hb hbox hg))
 (try simp only [Act.put, sA, sZ, sS])
 go_cut [10] (fun bQ wc => ∃ (kq : Nat) (bD : Bool), bQ = .bool bD ∧ Aside0 (impl_Fade.j0 kq bD aI aJ aQ aT aV aW aX aC aK aN aD = some (r1, r2, r3, r4, r5, r6, r7, r8, r9, bI, bJ)) ∧ Aside0 (kq ≤ k) ∧ Aside0 (wc.heap[bM]? = some (.cells #[aI, aJ, aQ, aT, aV, aW, aX, aC, aK, aN, aD] 79 (0, 0))) ∧ Aside0 (wc.heap[bA]? = some (.cells #[.bool false, .bool false, .int .i64 0, .int .i64 0, .int .i64 0, .int .i64 0, .int .i64 0, .int .i64 0, .int .i64 0, .int .i64 0, .bool false] 79 (0, 0))) ∧ Aside0 (Below w.heap.size w wc))
 case first =>
  have H := bL.out
  clear bL
  by_cases c5 : aJ = true
  case neg =>
   replace c5 := Bool.eq_false_iff.mpr c5
   subst c5
   replace H := hF H
   have H' := aM H
   clear H
   have bX := aG.out
   have bY := aH.out
   have bZ := cA11 aA.out
   go_wp2
   go_meet
   case rel => exact ⟨_, (true), xE, H', ⟨by first | omega | exact Nat.le_refl _⟩, ⟨bk aA.out⟩, ⟨bk aE.out⟩, ⟨bl HB.out⟩⟩
  subst c5
  replace H := hP H rfl
  obtain ⟨bH, bP, H⟩ := hB H
  have A6 := aM bP
  clear bP
  have H' := aM H
  clear H
  have cT := aG.out
  have cU := aH.out
  have cV := cA11 aA.out
  go_wp2_with (first | (go_at_call 122; (with_reducible refine (impl_PortOk.calls k aI true aQ aT aV aW aX aC aK aN aD bH _ A6.out).mono ?_); rintro e w9 ⟨rfl, hb⟩; replace aA := rB aA hb; replace aE := rB aE hb; replace HB := rS HB hb; (try clear hb)))
  go_meet
  case rel => exact ⟨_, (!bH), xE, H', ⟨by first | omega | exact Nat.le_refl _⟩, ⟨bk aA.out⟩, ⟨bk aE.out⟩, ⟨bl HB.out⟩⟩
 case rest =>
  clear bL
  repeat first|clear c1|clear p2|clear c5|clear c7|clear cW
  obtain ⟨kq, bD, rfl, HA, HJ1, aA, aE, HB⟩ := hcut
  cases kq with
  | zero => exact absurd HA.out (by simp [impl_Fade.j0])
  | succ cX =>
   have H := HA.out
   clear HA
   simp only [impl_Fade.j0] at H
   by_cases bK : bD = true
   case pos =>
    subst bK
    replace H := hP H rfl
    simp only [Option.some.injEq, Prod.mk.injEq] at H
    obtain ⟨rfl, rfl, rfl, rfl, rfl, rfl, rfl, rfl, rfl, rfl, rfl⟩ := H
    have cA := aG.out
    have cC := aH.out
    have cD := cA11 aA.out
    have cE := cA11 aE.out
    go_wp2
    refine bodyPost_ret (results_cell_row rfl _ _ bA 79 #[aI, aJ, aQ, aT, aV, aW, aX, aC, aK, aN, aD] (0, 0) _ rfl (bm aE.out) Try.underlying79 rfl (by kernel_rfl)) rfl ?_
    exact ⟨xW, bl HB.out⟩
   replace bK := Bool.eq_false_iff.mpr bK
   subst bK
   replace H := hF H
   by_cases bG : (wrap64 (aC - 1)) = 0
   case neg =>
    rw [if_neg bG] at H
    have bN : ((wrap64 (aC - 1)) == 0) = false := beq_eq_false_iff_ne.mpr bG
    have bO : ((wrap64 (aC - 1)) != 0) = true := bne_iff_ne.mpr bG
    simp only [Option.some.injEq, Prod.mk.injEq] at H
    obtain ⟨rfl, rfl, rfl, rfl, rfl, rfl, rfl, rfl, rfl, rfl, rfl⟩ := H
    have cG := aG.out
    have cH := aH.out
    have cK := cA11 aA.out
    have cL := cA11 aE.out
    go_wp2
    refine bodyPost_ret (results_cell_row rfl _ _ bA 79 #[aI, aJ, aQ, aT, aV, aW, aX, .int .i64 (wrap64 (aC - 1)), aK, aN, aD] (0, 0) _ rfl (bm aE.out) Try.underlying79 rfl (by kernel_rfl)) rfl ?_
    exact ⟨xW, bl HB.out⟩
   rw [if_pos bG] at H
   have bN : ((wrap64 (aC - 1)) == 0) = true := beq_iff_eq.mpr bG
   have bO : ((wrap64 (aC - 1)) != 0) = false := bne_eq_false_iff_eq.mpr bG
   clear bG
   simp only [Option.some.injEq, Prod.mk.injEq] at H
   obtain ⟨rfl, rfl, rfl, rfl, rfl, rfl, rfl, rfl, rfl, rfl, rfl⟩ := H
   have cN := aG.out
   have cO := aH.out
   have cP := cA11 aA.out
   have cQ := cA11 aE.out
   go_wp2
   refine bodyPost_ret (results_cell_row rfl _ _ bA 79 #[aI, .bool false, .int .i64 0, .int .i64 0, .int .i64 0, .int .i64 0, .int .i64 0, .int .i64 (wrap64 (aC - 1)), aK, aN, aD] (0, 0) _ rfl (bm aE.out) Try.underlying79 rfl (by kernel_rfl)) rfl ?_
   exact ⟨xW, bl HB.out⟩

end Go.Proofs.Ythmijfekdeagpaa.PFnFades
