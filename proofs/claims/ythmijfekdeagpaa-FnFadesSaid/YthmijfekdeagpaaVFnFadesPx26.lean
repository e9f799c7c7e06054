/- A part of the proof of laws.FnFades. No condition beyond what its theorems say. -/
import Derived.Test.YthmijfekdeagpaaVFnFadesPx6
namespace Go.Proofs.Ythmijfekdeagpaa.PFnFades
open Go.RowKit Go.Proofs.YthmijfekdeagpaaW.PrintWords Go.Proofs.YthmijfekdeagpaaW.PrintLast Go.Proofs.YthmijfekdeagpaaW.PrintMore
set_option linter.unusedVariables false
set_option linter.unusedSimpArgs false

def impl_Bridge_hops.f (k : Nat) (aD : Int) (aC : List (S79)) : Option (Int) := (impl_Bridge_rootPort.f k aD aC).bind fun aA => (if aA ≥ 0 then (if 0 ≤ aA then (if aA < (aC.length : Int) then (some (wrap64 (((rd_T79 aC aA).f3) + 1))) else (none)) else (none)) else (some 0))
theorem impl_Bridge_hops.mono : ∀ a0 a1 k, LeO (impl_Bridge_hops.f k a0 a1) (impl_Bridge_hops.f (k + 1) a0 a1) := by
 intro a0 a1 k
 unfold impl_Bridge_hops.f
 repeat' first|(with_reducible first|apply impl_Bridge_rootPort.mono|exact lR _|exact lN _|refine lI ?_ ?_|refine lB ?_ fun _ => ?_)|exact lN _|refine lI ?_ ?_|refine lB ?_ fun _ => ?_
set_option maxHeartbeats 60000000 in
set_option maxRecDepth 100000 in
theorem impl_Bridge_hops.calls (k : Nat) (aX : Int) (bI : Option Addr) (bJ : Nat) (aA : List (S79)) (r : Int) (w : World) (gb : Nat) (hBK : w.heap[gb]? = some (.cells #[aX, .slice bI aA.length bJ] 28 (0, 0))) (hr0_1 : Kd.C k79 w bI aA.length aA) (hc0_1 : aA.length ≤ bJ) (h : impl_Bridge_hops.f k aX aA = some r) :
  Calls Try.prog 121 #[.pointer (some ⟨gb, 0, none⟩)] w fun e w' => e = .returned (.int .i64 r) ∧ Below w.heap.size w w' := by
 have bO := Try.underlying28
 have bA := aM hr0_1
 have bH := aM hc0_1
 clear hr0_1 hc0_1
 have HB := aM (Below.refl w.heap.size w)
 have H : ((impl_Bridge_rootPort.f k aX aA).bind fun aC => (if aC ≥ 0 then (if 0 ≤ aC then (if aC < (aA.length : Int) then (some (wS ((rd_T79 aA aC).f3))) else (none)) else (none)) else (some 0))) = some r := h
 clear h
 obtain ⟨aC, bK, H⟩ := hB H
 have A2 := aM bK
 clear bK
 by_cases c3 : aC ≥ 0
 case neg =>
  rw [if_neg c3] at H
  have bL := decide_eq_false c3
  clear c3
  obtain rfl := Option.some.inj H
  go_enter Try.func121, Try.ntmps121
  have aD := aM hBK
  clear hBK
  go_wp2_with (first | ((with_reducible refine gC (f := 118) rfl ?_); refine gL (some 5) Try.func118 #[.pointer (some ⟨gb, 0, none⟩)] ?_; (with_reducible refine (impl_Bridge_rootPort.calls (gb := gb) (hBK := (bk aD.out)) k aX _ _ aA aC _ ?side1 ?side2 A2.out).mono ?_); (case side1 => exact cM (cB bA.out HB.out)); (case side2 => exact bH.out); rintro e bU ⟨rfl, hb⟩; refine ⟨_, rfl, ?_⟩; replace aD := rB aD hb; replace HB := rS HB hb; (try clear hb)))
  go_ret
  exact ⟨xW, bl HB.out⟩
 rw [if_pos c3] at H
 have bL := decide_eq_true c3
 clear c3
 obtain ⟨bP, H⟩ := gI H
 obtain ⟨bQ, H⟩ := gI H
 obtain rfl := Option.some.inj H
 go_enter Try.func121, Try.ntmps121
 have aD := aM hBK
 clear hBK
 go_wp2_with (first | ((with_reducible refine gC (f := 118) rfl ?_); refine gL (some 5) Try.func118 #[.pointer (some ⟨gb, 0, none⟩)] ?_; (with_reducible refine (impl_Bridge_rootPort.calls (gb := gb) (hBK := (bk aD.out)) k aX _ _ aA aC _ ?side1 ?side2 A2.out).mono ?_); (case side1 => exact cM (cB bA.out HB.out)); (case side2 => exact bH.out); rintro e w7 ⟨rfl, hb⟩; refine ⟨_, rfl, ?_⟩; replace aD := rB aD hb; replace HB := rS HB hb; (try clear hb); have bT := cA2 aD.out; have bD : 0 ≤ (aC : Int) := dT; have bG : aC < (aA.length : Int) := dT; obtain ⟨bN, bM, aG, aH, aI, aJ, aK, aN, aQ, aT, aV, aW, aE⟩ := at_T79 bA.out aC bD bG; cases bM; replace aG := (HB.out.cell (World.block_lt_of_cell? w _ aG)).trans aG; replace aH := (HB.out.cell (World.block_lt_of_cell? w _ aH)).trans aH; replace aI := (HB.out.cell (World.block_lt_of_cell? w _ aI)).trans aI; replace aJ := (HB.out.cell (World.block_lt_of_cell? w _ aJ)).trans aJ; replace aK := (HB.out.cell (World.block_lt_of_cell? w _ aK)).trans aK; replace aN := (HB.out.cell (World.block_lt_of_cell? w _ aN)).trans aN; replace aQ := (HB.out.cell (World.block_lt_of_cell? w _ aQ)).trans aQ; replace aT := (HB.out.cell (World.block_lt_of_cell? w _ aT)).trans aT; replace aV := (HB.out.cell (World.block_lt_of_cell? w _ aV)).trans aV; replace aW := (HB.out.cell (World.block_lt_of_cell? w _ aW)).trans aW; replace aE := (HB.out.cell (World.block_lt_of_cell? w _ aE)).trans aE; replace bD := eq_true bD; replace bG := eq_true bG))
 go_ret
 exact ⟨xW, bl HB.out⟩

end Go.Proofs.Ythmijfekdeagpaa.PFnFades
