/- Of the proof of laws.FnFlushed: a part. No condition beyond what its theorems say. -/
/- The machine side of laws.FnFlushed: where the plain function of that name answers true, its call returns true. No condition beyond what its arguments read as. -/
import Derived.Test.YtjaldondohddpaaVFnFlushedPx0
import Derived.Test.YtjaldondohddpaaVFnFlushedPx1
import Derived.Test.YtjaldondohddpaaVFnFlushedPx2
import Derived.Test.YtjaldondohddpaaVFnFlushedPx3
import Derived.Test.YtjaldondohddpaaVFnFlushedPx4
import Derived.Test.YtjaldondohddpaaVFnFlushedPx5
import Derived.Test.YtjaldondohddpaaVFnFlushedPx6
import Derived.Test.YtjaldondohddpaaVFnFlushedPx7
import Derived.Test.YtjaldondohddpaaVFnFlushedPx8
import Derived.Test.YtjaldondohddpaaVFnFlushedPx9
import Derived.Test.YtjaldondohddpaaVFnFlushedPx10
import Derived.Test.YtjaldondohddpaaVFnFlushedPx11
import Derived.Test.YtjaldondohddpaaVFnFlushedPx12
namespace Go.Proofs.Ytjaldondohddpaa.PFnFlushed
open Go.RowKit Go.Proofs.YtjaldondohddpaaW.PrintWords Go.Proofs.YtjaldondohddpaaW.PrintLast Go.Proofs.YtjaldondohddpaaW.PrintMore
attribute [local go_sem] max2_int min2_int max_two min_two max_three min_three max_four min_four   -- for this text's walks alone
set_option linter.unusedVariables false
set_option linter.unusedSimpArgs false
attribute [local go_sem high] eqA40

def laws_FnFlushed.j0 : Nat → Int → Bool → Bool → List Bool → List (S129) → List (S40) → Option (Bool)
 | 0, _, _, _, _, _, _ => none
 | k + 1, x4, x5, x28, x471000, x471001, x471002 => if x28 = true then ((impl_Gate.f k x471000 x471001 x471002 x4 x5).bind fun bt472 => ((laws_sameCard.f k bt472.1 bt472.2.1 bt472.2.2 x471000 x471001 x471002).bind fun t481 => (some t481))) else (if 0 ≤ x4 then (if x4 < (x471000.length : Int) then ((impl_Gate.f k x471000 x471001 x471002 x4 (!(rdOf false x471000 x4))).bind fun bt483 => ((impl_Gate.f k bt483.1 bt483.2.1 bt483.2.2 x4 (rdOf false x471000 x4)).bind fun bt493 => ((impl_Forget.f k x471002 x4).bind fun t503 => ((laws_sameHeard.f k bt493.2.2 t503).bind fun t506 => (if t506 = true then ((laws_sameFlags.f k bt493.1 x471000).bind fun t507 => (if t507 = true then ((impl_CardOk.f k bt493.1 bt493.2.1 bt493.2.2).bind fun t508 => (some t508)) else (some false))) else (some false)))))) else (none)) else (none))
def laws_FnFlushed.f (k : Nat) (l0 : List Int) : Option (Bool) := (laws_big.f l0).bind fun t458 => (if t458 = true then (some true) else ((spec_DrawGate.f k l0).bind fun bt459 => ((impl_CardOk.f k bt459.1 bt459.2.1 bt459.2.2.1).bind fun t471 => (if t471 = true then (if bt459.2.2.2.1 < 0 then (laws_FnFlushed.j0 k bt459.2.2.2.1 bt459.2.2.2.2 true bt459.1 bt459.2.1 bt459.2.2.1) else (laws_FnFlushed.j0 k bt459.2.2.2.1 bt459.2.2.2.2 (decide (bt459.2.2.2.1 ≥ (bt459.1.length : Int))) bt459.1 bt459.2.1 bt459.2.2.1)) else (laws_FnFlushed.j0 k bt459.2.2.2.1 bt459.2.2.2.2 true bt459.1 bt459.2.1 bt459.2.2.1)))))
theorem laws_FnFlushed.mono_l : ∀ k, (∀ y0 y1 y2 y3 y4 y5, LeO (laws_FnFlushed.j0 k y0 y1 y2 y3 y4 y5) (laws_FnFlushed.j0 (k + 1) y0 y1 y2 y3 y4 y5))
 | 0 => fun _ _ _ _ _ _ r h => by simp [laws_FnFlushed.j0] at h
 | k + 1 => by
  have ih0 := laws_FnFlushed.mono_l k
  ·intro y0 y1 y2 y3 y4 y5
   unfold laws_FnFlushed.j0
   repeat' first
   | (with_reducible exact ih0 _ _ _ _ _ _)
   | (with_reducible exact impl_CardOk.mono _ _ _ _)
   | (with_reducible exact impl_Forget.mono _ _ _)
   | (with_reducible exact impl_Gate.mono _ _ _ _ _ _)
   | (with_reducible exact laws_sameCard.mono _ _ _ _ _ _ _)
   | (with_reducible exact laws_sameFlags.mono _ _ _)
   | (with_reducible exact laws_sameHeard.mono _ _ _)
   | (with_reducible exact spec_DrawGate.mono _ _)
   | (with_reducible exact LeO.refl _)
   | (with_reducible exact LeO.none _)
   | (with_reducible refine LeO.ite ?_ ?_)
   | (with_reducible refine LeO.bind ?_ (fun _ => ?_))
   | exact ih0 _ _ _ _ _ _
   | exact impl_CardOk.mono _ _ _ _
   | exact impl_Forget.mono _ _ _
   | exact impl_Gate.mono _ _ _ _ _ _
   | exact laws_sameCard.mono _ _ _ _ _ _ _
   | exact laws_sameFlags.mono _ _ _
   | exact laws_sameHeard.mono _ _ _
   | exact spec_DrawGate.mono _ _
   | exact LeO.none _
   | refine LeO.ite ?_ ?_
   | refine LeO.bind ?_ (fun _ => ?_)
theorem laws_FnFlushed.mono : ∀ a0 k, LeO (laws_FnFlushed.f k a0) (laws_FnFlushed.f (k + 1) a0) := by
 intro a0 k
 have ih0 := laws_FnFlushed.mono_l k
 unfold laws_FnFlushed.f
 repeat' first
   | (with_reducible exact ih0 _ _ _ _ _ _)
   | (with_reducible exact impl_CardOk.mono _ _ _ _)
   | (with_reducible exact impl_Forget.mono _ _ _)
   | (with_reducible exact impl_Gate.mono _ _ _ _ _ _)
   | (with_reducible exact laws_sameCard.mono _ _ _ _ _ _ _)
   | (with_reducible exact laws_sameFlags.mono _ _ _)
   | (with_reducible exact laws_sameHeard.mono _ _ _)
   | (with_reducible exact spec_DrawGate.mono _ _)
   | (with_reducible exact LeO.refl _)
   | (with_reducible exact LeO.none _)
   | (with_reducible refine LeO.ite ?_ ?_)
   | (with_reducible refine LeO.bind ?_ (fun _ => ?_))
   | exact ih0 _ _ _ _ _ _
   | exact impl_CardOk.mono _ _ _ _
   | exact impl_Forget.mono _ _ _
   | exact impl_Gate.mono _ _ _ _ _ _
   | exact laws_sameCard.mono _ _ _ _ _ _ _
   | exact laws_sameFlags.mono _ _ _
   | exact laws_sameHeard.mono _ _ _
   | exact spec_DrawGate.mono _ _
   | exact LeO.none _
   | refine LeO.ite ?_ ?_
   | refine LeO.bind ?_ (fun _ => ?_)
def laws_FnFlushed.T6 : Bool × List (List Nat × List Nat) := (true, [([], []), ([], []), ([], []), ([2], [2]), ([], []), ([3, 4], [3, 4]), ([5], [5]), ([6], [6]), ([0, 1, 7], [0, 1, 7]), ([], []), ([], []), ([10], [10]), ([], []), ([11, 12], [11, 12]), ([13], [13]), ([8, 9, 14, 8], [8, 9, 14]), ([], []), ([16, 15, 15, 0, 1, 2, 3, 4, 5, 6, 7, 8, 9, 10, 11, 12, 13, 14, 15, 16], [15, 16])])
def laws_FnFlushed.B6 : List Nat := [0, 0, 0, 4, 0, 28, 60, 124, 255, 0, 0, 1024, 0, 7168, 15360, 32767, 0, 131071]
theorem laws_FnFlushed.tab6 : rtab .any (opsOf Try.f7 6) = laws_FnFlushed.T6 := by kernel_rfl
theorem laws_FnFlushed.bits6 : waitsOk laws_FnFlushed.T6.2 laws_FnFlushed.B6 = true := by kernel_rfl
def laws_FnFlushed.T7 : Bool × List (List Nat × List Nat) := (true, [([], []), ([0], [0]), ([], []), ([2], [2]), ([], []), ([3, 4], [3, 4]), ([1, 5, 5], [1, 5]), ([6, 6], [6]), ([7], [7]), ([8, 7], [7, 8]), ([7], [7]), ([10, 7], [7, 10]), ([9, 11, 7, 7], [7, 9, 11]), ([7, 12], [7, 12]), ([13, 12], [13]), ([14], [14]), ([15, 14, 14], [14, 15]), ([14, 16], [14, 16]), ([17, 16, 0, 1, 2, 3, 4, 5, 6, 7, 8, 9, 10, 11, 12, 13, 14, 15, 16, 17], [17])])
def laws_FnFlushed.B7 : List Nat := [0, 1, 0, 4, 0, 28, 63, 127, 255, 511, 255, 1279, 4095, 8191, 16383, 32767, 65535, 131071, 262143]
theorem laws_FnFlushed.tab7 : rtab .any (opsOf Try.f7 7) = laws_FnFlushed.T7 := by kernel_rfl
theorem laws_FnFlushed.bits7 : waitsOk laws_FnFlushed.T7.2 laws_FnFlushed.B7 = true := by kernel_rfl
set_option maxHeartbeats 60000000 in
set_option maxRecDepth 100000 in
theorem laws_FnFlushed.calls (k : Nat) (A0 : Option Addr) (c0 : Nat) (l0 : List Int) (w : World) (hr0 : Kd.C (Kd.int .u8) w A0 l0.length l0) (hc0 : l0.length ≤ c0) (h : laws_FnFlushed.f k l0 = some true) :
  Calls Try.prog 7 #[.slice A0 l0.length c0] w fun e w' => e = .returned (.bool true) ∧ Below w.heap.size w w' := by
 have hu73 := Try.underlying73
 have HR0 := aM hr0
 have HC0 := aM hc0
 clear hr0 hc0
 have HB := aM (Below.refl w.heap.size w)
 have H : ((laws_big.f l0).bind fun t458 => (if t458 = true then (some true) else ((spec_DrawGate.f k l0).bind fun bt459 => ((impl_CardOk.f k bt459.1 bt459.2.1 bt459.2.2.1).bind fun t471 => (if t471 = true then (if bt459.2.2.2.1 < 0 then (laws_FnFlushed.j0 k bt459.2.2.2.1 bt459.2.2.2.2 true bt459.1 bt459.2.1 bt459.2.2.1) else (laws_FnFlushed.j0 k bt459.2.2.2.1 bt459.2.2.2.2 (decide (bt459.2.2.2.1 ≥ (bt459.1.length : Int))) bt459.1 bt459.2.1 bt459.2.2.1)) else (laws_FnFlushed.j0 k bt459.2.2.2.1 bt459.2.2.2.2 true bt459.1 bt459.2.1 bt459.2.2.1)))))) = some true := h
 clear h
 replace H := Option.bind_eq_some_iff.mp H
 obtain ⟨t458, A20, H⟩ := H
 replace H : (if t458 = true then (some true) else ((spec_DrawGate.f k l0).bind fun bt459 => ((impl_CardOk.f k bt459.1 bt459.2.1 bt459.2.2.1).bind fun t471 => (if t471 = true then (if bt459.2.2.2.1 < 0 then (laws_FnFlushed.j0 k bt459.2.2.2.1 bt459.2.2.2.2 true bt459.1 bt459.2.1 bt459.2.2.1) else (laws_FnFlushed.j0 k bt459.2.2.2.1 bt459.2.2.2.2 (decide (bt459.2.2.2.1 ≥ (bt459.1.length : Int))) bt459.1 bt459.2.1 bt459.2.2.1)) else (laws_FnFlushed.j0 k bt459.2.2.2.1 bt459.2.2.2.2 true bt459.1 bt459.2.1 bt459.2.2.1))))) = some true := H
 have A2 := aM A20
 clear A20
 by_cases c3 : t458 = true
 case pos =>
  subst c3
  have H1 : (some true) = some true := by first | (rw [if_pos rfl] at H; exact H) | (rw [if_pos rfl] at H)
  clear H
  have H := H1
  clear H1 H
  go_enter Try.func7, Try.ntmps7
  go_wp2_with (first | ((with_reducible refine gate_callee (f := 11) rfl ?_); refine goesL_ (some 8) rfl rfl Try.func11 (by kernel_rfl) rfl #[.slice A0 l0.length c0] rfl xR ?_; (with_reducible refine (laws_big.calls _ _ l0 true _ ?side1 ?side2 A2.out).mono ?_); (case side1 => repeat (first | exact HR0.out | (with_reducible refine Kd.C_alloc ?_ _) | (with_reducible refine Kd.C_drewN ?_ _) | (with_reducible refine Kd.C_drew ?_))); (case side2 => exact HC0.out); rintro e w' ⟨rfl, ⟨nd, rfl⟩⟩; refine ⟨_, rfl, ?_⟩))
  go_ret
  exact ⟨xW, bl HB.out⟩
 replace c3 := Bool.eq_false_iff.mpr c3
 subst c3
 have H1 : ((spec_DrawGate.f k l0).bind fun bt459 => ((impl_CardOk.f k bt459.1 bt459.2.1 bt459.2.2.1).bind fun t471 => (if t471 = true then (if bt459.2.2.2.1 < 0 then (laws_FnFlushed.j0 k bt459.2.2.2.1 bt459.2.2.2.2 true bt459.1 bt459.2.1 bt459.2.2.1) else (laws_FnFlushed.j0 k bt459.2.2.2.1 bt459.2.2.2.2 (decide (bt459.2.2.2.1 ≥ (bt459.1.length : Int))) bt459.1 bt459.2.1 bt459.2.2.1)) else (laws_FnFlushed.j0 k bt459.2.2.2.1 bt459.2.2.2.2 true bt459.1 bt459.2.1 bt459.2.2.1)))) = some true := by first | (rw [if_neg (show ¬ (false = true) by decide)] at H; exact H) | (rw [if_neg (show ¬ (false = true) by decide)] at H)
 clear H
 have H := H1
 clear H1
 replace H := Option.bind_eq_some_iff.mp H
 obtain ⟨⟨t459, t462, t465, t468, t469⟩, A40, H⟩ := H
 replace H : ((impl_CardOk.f k t459 t462 t465).bind fun t471 => (if t471 = true then (if t468 < 0 then (laws_FnFlushed.j0 k t468 t469 true t459 t462 t465) else (laws_FnFlushed.j0 k t468 t469 (decide (t468 ≥ (t459.length : Int))) t459 t462 t465)) else (laws_FnFlushed.j0 k t468 t469 true t459 t462 t465))) = some true := H
 have A4 := aM A40
 clear A40
 have HC5 := aM H
 clear H
 go_enter Try.func7, Try.ntmps7
 go_upto_region 4 with (first | ((with_reducible refine gate_callee (f := 11) rfl ?_); refine goesL_ (some 8) rfl rfl Try.func11 (by kernel_rfl) rfl #[.slice A0 l0.length c0] rfl xR ?_; (with_reducible refine (laws_big.calls _ _ l0 false _ ?side1 ?side2 A2.out).mono ?_); (case side1 => repeat (first | exact HR0.out | (with_reducible refine Kd.C_alloc ?_ _) | (with_reducible refine Kd.C_drewN ?_ _) | (with_reducible refine Kd.C_drew ?_))); (case side2 => exact HC0.out); rintro e w' ⟨rfl, ⟨nd, rfl⟩⟩; refine ⟨_, rfl, ?_⟩) | ((with_reducible refine gate_callee (f := 54) rfl ?_); refine goesL_ (some 11) rfl rfl Try.func54 (by kernel_rfl) rfl #[.slice A0 l0.length c0] rfl xR ?_; (with_reducible refine (spec_DrawGate.calls k _ _ l0 t459 t462 t465 t468 t469 _ ?side1 ?side2 A4.out).mono ?_); (case side1 => repeat (first | exact HR0.out | (with_reducible refine Kd.C_alloc ?_ _) | (with_reducible refine Kd.C_drewN ?_ _) | (with_reducible refine Kd.C_drew ?_))); (case side2 => exact HC0.out); rintro e w6 ⟨v460, v463, v466, rfl, ho0, ho1, ho2, hb⟩; refine ⟨_, rfl, ?_⟩; have n0_ := aM (Kd.R_lower (Kd.R_mono (ok' := fun k_ => True) ho0 (fun _ hk_ => trivial)) (below_size (bl HB.out))); have n1_ := aM (Kd.N_lower (Kd.N_mono (ok' := fun k_ => some k_ ≠ (v460 : Value).ownBlock ∧ some k_ ≠ (v466 : Value).ownBlock) ho1 (fun k_ hk_ => ⟨hk_.2.1, hk_.2.2⟩)) (below_size (bl HB.out))); have n2_ := aM (Kd.R_lower (Kd.R_mono (ok' := fun k_ => True) ho2 (fun _ hk_ => trivial)) (below_size (bl HB.out))); have n3_ := aM (bS (bl HB.out) hb); clear HB; have HO461 := n0_; have HO464 := n1_; have HO467 := n2_; have HB := n3_; clear n0_ n1_ n2_ n3_; (try clear hb); (try clear ho0); (try clear ho1); (try clear ho2)) | ((with_reducible refine gate_dst (N := 3) rfl ?_); (try (refine gate_guard (by rfl) ?_; dsimp only)); refine box_event ?hg (N := 3) ?hd (cs := #[.slice none 0 0, .slice none 0 0, .slice none 0 0]) (t := 73) ?hr ?_; (case hd => rfl); (case hg => rfl); (case hr => first | (go_simp; done) | (go_simp; rfl) | (obtain ⟨A_, c_, e_⟩ := Kd.R_slice HO461.out; subst e_; (first | (go_simp; done) | (go_simp; rfl))) | (obtain ⟨A_, c_, e_⟩ := Kd.S_slice HO461.out; subst e_; (first | (go_simp; done) | (go_simp; rfl))) | (obtain ⟨A_, c_, e_⟩ := Kd.R_slice HO464.out; subst e_; (first | (go_simp; done) | (go_simp; rfl))) | (obtain ⟨A_, c_, e_⟩ := Kd.S_slice HO464.out; subst e_; (first | (go_simp; done) | (go_simp; rfl))) | (obtain ⟨A_, c_, e_⟩ := Kd.R_slice HO467.out; subst e_; (first | (go_simp; done) | (go_simp; rfl))) | (obtain ⟨A_, c_, e_⟩ := Kd.S_slice HO467.out; subst e_; (first | (go_simp; done) | (go_simp; rfl)))); intro gb470 hg w7 hbox hb; have n0_ := aM (kB (kr HO461.out) hb); have n1_ := aM (Kd.N_below (Kd.N_elderB (by (with_reducible repeat (first | apply Kd.N_alloc | apply Kd.N_drewN | apply Kd.N_drew)); exact HO464.out) gb470 (Nat.le_of_eq hg.symm)) hb); have n2_ := aM (kB (kr HO467.out) hb); have n3_ := aM (bS (bl HB.out) hb); have n4_ := aM (hbox); have n5_ := aM ((by rw [hg]; exact (below_size (bl HB.out)) : w.heap.size ≤ gb470)); have n6_ := aM ((by rw [hg]; exact (below_size (bl HB.out)) : w.heap.size ≤ gb470)); clear HO461 HO464; clear HO467 HB; have HO461 := n0_; have HO464 := n1_; have HO467 := n2_; have HB := n3_; have BK470 := n4_; have GW470 := n5_; have GE470 := n6_; clear n0_ n1_ n2_ n3_ n4_ n5_ n6_; clear hb hbox hg; obtain ⟨Ao8, co8, eo8⟩ := Kd.R_slice HO461.out; subst eo8; have hcz9_0 := cI BK470.out 0; have hcz9_1 := cI BK470.out 1; have hcz9_2 := cI BK470.out 2; have hfz9_0 := bF BK470.out 0; have hfz9_1 := bF BK470.out 1; have hfz9_2 := bF BK470.out 2; obtain ⟨Ao10, co10, eo10⟩ := Kd.N_slice HO464.out; subst eo10; obtain ⟨Ao11, co11, eo11⟩ := Kd.R_slice HO467.out; subst eo11))
 (try simp only [Act.put, sA, sZ, sS])
 go_cut [28] (fun v28 wc => ∃ (kq : Nat) (x28_4 : Bool), v28 = .bool x28_4 ∧ Aside0 (laws_FnFlushed.j0 kq t468 t469 x28_4 t459 t462 t465 = some true) ∧ Aside0 (kq ≤ k) ∧ Aside0 (Kd.R Kd.bool 4 wc w.heap.size (fun _ => True) (.slice Ao8 t459.length co8) t459) ∧ Aside0 (Kd.N k129 129 wc w.heap.size (fun k_ => some k_ ≠ ((.slice Ao8 t459.length co8) : Value).ownBlock ∧ some k_ ≠ ((.slice Ao11 t465.length co11) : Value).ownBlock ∧ k_ ≠ gb470) (.slice Ao10 t462.length co10) t462) ∧ Aside0 (Kd.R k40 40 wc w.heap.size (fun _ => True) (.slice Ao11 t465.length co11) t465) ∧ Aside0 (wc.heap[gb470]? = some (.cells #[(.slice Ao8 t459.length co8), (.slice Ao10 t462.length co10), (.slice Ao11 t465.length co11)] 73 (0, 0))) ∧ Aside0 (Below w.heap.size w wc))
 case first =>
  have H := HC5.out
  clear HC5
  replace H := Option.bind_eq_some_iff.mp H
  obtain ⟨t471, A120, H⟩ := H
  replace H : (if t471 = true then (if t468 < 0 then (laws_FnFlushed.j0 k t468 t469 true t459 t462 t465) else (laws_FnFlushed.j0 k t468 t469 (decide (t468 ≥ (t459.length : Int))) t459 t462 t465)) else (laws_FnFlushed.j0 k t468 t469 true t459 t462 t465)) = some true := H
  have A12 := aM A120
  clear A120
  by_cases c13 : t471 = true
  case neg =>
   replace c13 := Bool.eq_false_iff.mpr c13
   subst c13
   have H1 : (laws_FnFlushed.j0 k t468 t469 true t459 t462 t465) = some true := by first | (rw [if_neg (show ¬ (false = true) by decide)] at H; exact H) | (rw [if_neg (show ¬ (false = true) by decide)] at H)
   clear H
   have H := H1
   clear H1
   have H' := aM H
   clear H
   have hcz20_0 := cI BK470.out 0
   have hcz20_1 := cI BK470.out 1
   have hcz20_2 := cI BK470.out 2
   have hfz20_0 := bF BK470.out 0
   have hfz20_1 := bF BK470.out 1
   have hfz20_2 := bF BK470.out 2
   go_wp2_with (first | ((with_reducible refine gate_callee (f := 52) rfl ?_); refine goesL_ (some 16) rfl rfl Try.func52 (by kernel_rfl) rfl #[.agg #[.slice Ao8 t459.length co8, .slice Ao10 t462.length co10, .slice Ao11 t465.length co11]] rfl xR ?_; (with_reducible refine (impl_CardOk.calls k _ _ t459 _ _ t462 _ _ t465 false _ ?side1 ?side2 ?side3 ?side4 ?side5 ?side6 A12.out).mono ?_); (case side1 => refine (Kd.R_reads' (e := 4) (base := w.heap.size) (ok := fun k_ => True) (n := t459.length) (c := co8) ?_).2.2; exact (kr (Kd.R_mono (kF (p := ⟨gb470, 2, none⟩) (kF (p := ⟨gb470, 1, none⟩) (kF (p := ⟨gb470, 0, none⟩) (Kd.R_types HO461.out BK470.out (by decide)) (fun _ hk => hk.2) (.slice Ao8 t459.length co8)) (fun _ hk => hk.2) (.slice Ao10 t462.length co10)) (fun _ hk => hk.2) (.slice Ao11 t465.length co11)) (fun _ h_ => h_.1)))); (case side2 => exact (Kd.R_reads' HO461.out).2.1); (case side3 => refine (Kd.N_reads' (e := 129) (base := w.heap.size) (ok := fun k_ => ((some k_ ≠ (.slice Ao8 t459.length co8 : Value).ownBlock ∧ some k_ ≠ (.slice Ao11 t465.length co11 : Value).ownBlock) ∧ k_ ≠ gb470)) (n := t462.length) (c := co10) ?_).2.2; exact (by (with_reducible repeat (first | apply Kd.N_alloc | apply Kd.N_drewN | apply Kd.N_drew)); exact (Kd.N_mono (Kd.N_far (p := ⟨gb470, 2, none⟩) (Kd.N_far (p := ⟨gb470, 1, none⟩) (Kd.N_far (p := ⟨gb470, 0, none⟩) (Kd.N_mono HO464.out (fun k_ hk => (⟨hk, hk.2⟩ : _ ∧ k_ ≠ gb470))) (fun _ hk => hk.2) (.slice Ao8 t459.length co8)) (fun _ hk => hk.2) (.slice Ao10 t462.length co10)) (fun _ hk => hk.2) (.slice Ao11 t465.length co11)) (fun _ h_ => h_.1)))); (case side4 => exact (Kd.N_reads' HO464.out).2.1); (case side5 => refine (Kd.R_reads' (e := 40) (base := w.heap.size) (ok := fun k_ => True) (n := t465.length) (c := co11) ?_).2.2; exact (kr (Kd.R_mono (kF (p := ⟨gb470, 2, none⟩) (kF (p := ⟨gb470, 1, none⟩) (kF (p := ⟨gb470, 0, none⟩) (Kd.R_types HO467.out BK470.out (by decide)) (fun _ hk => hk.2) (.slice Ao8 t459.length co8)) (fun _ hk => hk.2) (.slice Ao10 t462.length co10)) (fun _ hk => hk.2) (.slice Ao11 t465.length co11)) (fun _ h_ => h_.1)))); (case side6 => exact (Kd.R_reads' HO467.out).2.1); rintro e w21 ⟨rfl, hb⟩; refine ⟨_, rfl, ?_⟩; have n0_ := aM (kB (kr (Kd.R_mono (kF (p := ⟨gb470, 2, none⟩) (kF (p := ⟨gb470, 1, none⟩) (kF (p := ⟨gb470, 0, none⟩) (Kd.R_types HO461.out BK470.out (by decide)) (fun _ hk => hk.2) (.slice Ao8 t459.length co8)) (fun _ hk => hk.2) (.slice Ao10 t462.length co10)) (fun _ hk => hk.2) (.slice Ao11 t465.length co11)) (fun _ h_ => h_.1))) hb); have n1_ := aM (Kd.N_below (by (with_reducible repeat (first | apply Kd.N_alloc | apply Kd.N_drewN | apply Kd.N_drew)); exact (Kd.N_mono (Kd.N_far (p := ⟨gb470, 2, none⟩) (Kd.N_far (p := ⟨gb470, 1, none⟩) (Kd.N_far (p := ⟨gb470, 0, none⟩) (Kd.N_mono HO464.out (fun k_ hk => (⟨hk, hk.2⟩ : _ ∧ k_ ≠ gb470))) (fun _ hk => hk.2) (.slice Ao8 t459.length co8)) (fun _ hk => hk.2) (.slice Ao10 t462.length co10)) (fun _ hk => hk.2) (.slice Ao11 t465.length co11)) (fun _ h_ => h_.1))) hb); have n2_ := aM (kB (kr (Kd.R_mono (kF (p := ⟨gb470, 2, none⟩) (kF (p := ⟨gb470, 1, none⟩) (kF (p := ⟨gb470, 0, none⟩) (Kd.R_types HO467.out BK470.out (by decide)) (fun _ hk => hk.2) (.slice Ao8 t459.length co8)) (fun _ hk => hk.2) (.slice Ao10 t462.length co10)) (fun _ hk => hk.2) (.slice Ao11 t465.length co11)) (fun _ h_ => h_.1))) hb); have n3_ := aM (bB (g := gb470) (o := .cells #[.slice Ao8 t459.length co8, .slice Ao10 t462.length co10, .slice Ao11 t465.length co11] 73 (0, 0)) (by (with_reducible repeat (first | refine blk_drewN ?_ _ | refine blk_drew ?_ | refine blk_alloc ?_ _)); refine blk_put (cs := #[.slice Ao8 t459.length co8, .slice Ao10 t462.length co10, .slice none 0 0]) ?_ 2 _ rfl; (with_reducible repeat (first | refine blk_drewN ?_ _ | refine blk_drew ?_ | refine blk_alloc ?_ _)); refine blk_put (cs := #[.slice Ao8 t459.length co8, .slice none 0 0, .slice none 0 0]) ?_ 1 _ rfl; (with_reducible repeat (first | refine blk_drewN ?_ _ | refine blk_drew ?_ | refine blk_alloc ?_ _)); refine blk_put (cs := #[.slice none 0 0, .slice none 0 0, .slice none 0 0]) ?_ 0 _ rfl; (with_reducible repeat (first | refine blk_drewN ?_ _ | refine blk_drew ?_ | refine blk_alloc ?_ _)); exact BK470.out) hb); have n4_ := aM (bS (bl HB.out) hb); clear HO461 HO464; clear HO467 BK470 HB; have HO461 := n0_; have HO464 := n1_; have HO467 := n2_; have BK470 := n3_; have HB := n4_; clear n0_ n1_ n2_ n3_ n4_; (try clear hb)))
   go_meet
   case rel => exact ⟨_, (true), xE, H', ⟨by first | omega | exact Nat.le_refl _⟩, ⟨kr HO461.out⟩, ⟨by (with_reducible repeat (first | apply Kd.N_alloc | apply Kd.N_drewN | apply Kd.N_drew)); exact Kd.N_mono HO464.out (fun _ hk => ⟨hk.1.1, ⟨hk.1.2, hk.2⟩⟩)⟩, ⟨kr HO467.out⟩, ⟨by (with_reducible repeat (first | refine blk_drewN ?_ _ | refine blk_drew ?_ | refine blk_alloc ?_ _)); exact BK470.out⟩, ⟨bl HB.out⟩⟩
  subst c13
  have H1 : (if t468 < 0 then (laws_FnFlushed.j0 k t468 t469 true t459 t462 t465) else (laws_FnFlushed.j0 k t468 t469 (decide (t468 ≥ (t459.length : Int))) t459 t462 t465)) = some true := by first | (rw [if_pos rfl] at H; exact H) | (rw [if_pos rfl] at H)
  clear H
  have H := H1
  clear H1
  by_cases c14 : t468 < 0
  case pos =>
   rw [if_pos c14] at H
   have c14b0 : decide (t468 < 0) = true := decide_eq_true c14
   clear c14
   (first | rw [c14b0] | (simp only [i64_w, i32_w]; rw [c14b0]) | skip)
   have H' := aM H
   clear H
   have hcz15_0 := cI BK470.out 0
   have hcz15_1 := cI BK470.out 1
   have hcz15_2 := cI BK470.out 2
   have hfz15_0 := bF BK470.out 0
   have hfz15_1 := bF BK470.out 1
   have hfz15_2 := bF BK470.out 2
   go_wp2_with (first | ((with_reducible refine gate_callee (f := 52) rfl ?_); refine goesL_ (some 16) rfl rfl Try.func52 (by kernel_rfl) rfl #[.agg #[.slice Ao8 t459.length co8, .slice Ao10 t462.length co10, .slice Ao11 t465.length co11]] rfl xR ?_; (with_reducible refine (impl_CardOk.calls k _ _ t459 _ _ t462 _ _ t465 true _ ?side1 ?side2 ?side3 ?side4 ?side5 ?side6 A12.out).mono ?_); (case side1 => refine (Kd.R_reads' (e := 4) (base := w.heap.size) (ok := fun k_ => True) (n := t459.length) (c := co8) ?_).2.2; exact (kr (Kd.R_mono (kF (p := ⟨gb470, 2, none⟩) (kF (p := ⟨gb470, 1, none⟩) (kF (p := ⟨gb470, 0, none⟩) (Kd.R_types HO461.out BK470.out (by decide)) (fun _ hk => hk.2) (.slice Ao8 t459.length co8)) (fun _ hk => hk.2) (.slice Ao10 t462.length co10)) (fun _ hk => hk.2) (.slice Ao11 t465.length co11)) (fun _ h_ => h_.1)))); (case side2 => exact (Kd.R_reads' HO461.out).2.1); (case side3 => refine (Kd.N_reads' (e := 129) (base := w.heap.size) (ok := fun k_ => ((some k_ ≠ (.slice Ao8 t459.length co8 : Value).ownBlock ∧ some k_ ≠ (.slice Ao11 t465.length co11 : Value).ownBlock) ∧ k_ ≠ gb470)) (n := t462.length) (c := co10) ?_).2.2; exact (by (with_reducible repeat (first | apply Kd.N_alloc | apply Kd.N_drewN | apply Kd.N_drew)); exact (Kd.N_mono (Kd.N_far (p := ⟨gb470, 2, none⟩) (Kd.N_far (p := ⟨gb470, 1, none⟩) (Kd.N_far (p := ⟨gb470, 0, none⟩) (Kd.N_mono HO464.out (fun k_ hk => (⟨hk, hk.2⟩ : _ ∧ k_ ≠ gb470))) (fun _ hk => hk.2) (.slice Ao8 t459.length co8)) (fun _ hk => hk.2) (.slice Ao10 t462.length co10)) (fun _ hk => hk.2) (.slice Ao11 t465.length co11)) (fun _ h_ => h_.1)))); (case side4 => exact (Kd.N_reads' HO464.out).2.1); (case side5 => refine (Kd.R_reads' (e := 40) (base := w.heap.size) (ok := fun k_ => True) (n := t465.length) (c := co11) ?_).2.2; exact (kr (Kd.R_mono (kF (p := ⟨gb470, 2, none⟩) (kF (p := ⟨gb470, 1, none⟩) (kF (p := ⟨gb470, 0, none⟩) (Kd.R_types HO467.out BK470.out (by decide)) (fun _ hk => hk.2) (.slice Ao8 t459.length co8)) (fun _ hk => hk.2) (.slice Ao10 t462.length co10)) (fun _ hk => hk.2) (.slice Ao11 t465.length co11)) (fun _ h_ => h_.1)))); (case side6 => exact (Kd.R_reads' HO467.out).2.1); rintro e w16 ⟨rfl, hb⟩; refine ⟨_, rfl, ?_⟩; have n0_ := aM (kB (kr (Kd.R_mono (kF (p := ⟨gb470, 2, none⟩) (kF (p := ⟨gb470, 1, none⟩) (kF (p := ⟨gb470, 0, none⟩) (Kd.R_types HO461.out BK470.out (by decide)) (fun _ hk => hk.2) (.slice Ao8 t459.length co8)) (fun _ hk => hk.2) (.slice Ao10 t462.length co10)) (fun _ hk => hk.2) (.slice Ao11 t465.length co11)) (fun _ h_ => h_.1))) hb); have n1_ := aM (Kd.N_below (by (with_reducible repeat (first | apply Kd.N_alloc | apply Kd.N_drewN | apply Kd.N_drew)); exact (Kd.N_mono (Kd.N_far (p := ⟨gb470, 2, none⟩) (Kd.N_far (p := ⟨gb470, 1, none⟩) (Kd.N_far (p := ⟨gb470, 0, none⟩) (Kd.N_mono HO464.out (fun k_ hk => (⟨hk, hk.2⟩ : _ ∧ k_ ≠ gb470))) (fun _ hk => hk.2) (.slice Ao8 t459.length co8)) (fun _ hk => hk.2) (.slice Ao10 t462.length co10)) (fun _ hk => hk.2) (.slice Ao11 t465.length co11)) (fun _ h_ => h_.1))) hb); have n2_ := aM (kB (kr (Kd.R_mono (kF (p := ⟨gb470, 2, none⟩) (kF (p := ⟨gb470, 1, none⟩) (kF (p := ⟨gb470, 0, none⟩) (Kd.R_types HO467.out BK470.out (by decide)) (fun _ hk => hk.2) (.slice Ao8 t459.length co8)) (fun _ hk => hk.2) (.slice Ao10 t462.length co10)) (fun _ hk => hk.2) (.slice Ao11 t465.length co11)) (fun _ h_ => h_.1))) hb); have n3_ := aM (bB (g := gb470) (o := .cells #[.slice Ao8 t459.length co8, .slice Ao10 t462.length co10, .slice Ao11 t465.length co11] 73 (0, 0)) (by (with_reducible repeat (first | refine blk_drewN ?_ _ | refine blk_drew ?_ | refine blk_alloc ?_ _)); refine blk_put (cs := #[.slice Ao8 t459.length co8, .slice Ao10 t462.length co10, .slice none 0 0]) ?_ 2 _ rfl; (with_reducible repeat (first | refine blk_drewN ?_ _ | refine blk_drew ?_ | refine blk_alloc ?_ _)); refine blk_put (cs := #[.slice Ao8 t459.length co8, .slice none 0 0, .slice none 0 0]) ?_ 1 _ rfl; (with_reducible repeat (first | refine blk_drewN ?_ _ | refine blk_drew ?_ | refine blk_alloc ?_ _)); refine blk_put (cs := #[.slice none 0 0, .slice none 0 0, .slice none 0 0]) ?_ 0 _ rfl; (with_reducible repeat (first | refine blk_drewN ?_ _ | refine blk_drew ?_ | refine blk_alloc ?_ _)); exact BK470.out) hb); have n4_ := aM (bS (bl HB.out) hb); clear HO461 HO464; clear HO467 BK470 HB; have HO461 := n0_; have HO464 := n1_; have HO467 := n2_; have BK470 := n3_; have HB := n4_; clear n0_ n1_ n2_ n3_ n4_; (try clear hb)))
   go_meet
   case rel => exact ⟨_, (true), xE, H', ⟨by first | omega | exact Nat.le_refl _⟩, ⟨kr HO461.out⟩, ⟨by (with_reducible repeat (first | apply Kd.N_alloc | apply Kd.N_drewN | apply Kd.N_drew)); exact Kd.N_mono HO464.out (fun _ hk => ⟨hk.1.1, ⟨hk.1.2, hk.2⟩⟩)⟩, ⟨kr HO467.out⟩, ⟨by (with_reducible repeat (first | refine blk_drewN ?_ _ | refine blk_drew ?_ | refine blk_alloc ?_ _)); exact BK470.out⟩, ⟨bl HB.out⟩⟩
  rw [if_neg c14] at H
  have c14b0 : decide (t468 < 0) = false := decide_eq_false c14
  clear c14
  (first | rw [c14b0] | (simp only [i64_w, i32_w]; rw [c14b0]) | skip)
  have H' := aM H
  clear H
  have hcz17_0 := cI BK470.out 0
  have hcz17_1 := cI BK470.out 1
  have hcz17_2 := cI BK470.out 2
  have hfz17_0 := bF BK470.out 0
  have hfz17_1 := bF BK470.out 1
  have hfz17_2 := bF BK470.out 2
  go_wp2_with (first | ((with_reducible refine gate_callee (f := 52) rfl ?_); refine goesL_ (some 16) rfl rfl Try.func52 (by kernel_rfl) rfl #[.agg #[.slice Ao8 t459.length co8, .slice Ao10 t462.length co10, .slice Ao11 t465.length co11]] rfl xR ?_; (with_reducible refine (impl_CardOk.calls k _ _ t459 _ _ t462 _ _ t465 true _ ?side1 ?side2 ?side3 ?side4 ?side5 ?side6 A12.out).mono ?_); (case side1 => refine (Kd.R_reads' (e := 4) (base := w.heap.size) (ok := fun k_ => True) (n := t459.length) (c := co8) ?_).2.2; exact (kr (Kd.R_mono (kF (p := ⟨gb470, 2, none⟩) (kF (p := ⟨gb470, 1, none⟩) (kF (p := ⟨gb470, 0, none⟩) (Kd.R_types HO461.out BK470.out (by decide)) (fun _ hk => hk.2) (.slice Ao8 t459.length co8)) (fun _ hk => hk.2) (.slice Ao10 t462.length co10)) (fun _ hk => hk.2) (.slice Ao11 t465.length co11)) (fun _ h_ => h_.1)))); (case side2 => exact (Kd.R_reads' HO461.out).2.1); (case side3 => refine (Kd.N_reads' (e := 129) (base := w.heap.size) (ok := fun k_ => ((some k_ ≠ (.slice Ao8 t459.length co8 : Value).ownBlock ∧ some k_ ≠ (.slice Ao11 t465.length co11 : Value).ownBlock) ∧ k_ ≠ gb470)) (n := t462.length) (c := co10) ?_).2.2; exact (by (with_reducible repeat (first | apply Kd.N_alloc | apply Kd.N_drewN | apply Kd.N_drew)); exact (Kd.N_mono (Kd.N_far (p := ⟨gb470, 2, none⟩) (Kd.N_far (p := ⟨gb470, 1, none⟩) (Kd.N_far (p := ⟨gb470, 0, none⟩) (Kd.N_mono HO464.out (fun k_ hk => (⟨hk, hk.2⟩ : _ ∧ k_ ≠ gb470))) (fun _ hk => hk.2) (.slice Ao8 t459.length co8)) (fun _ hk => hk.2) (.slice Ao10 t462.length co10)) (fun _ hk => hk.2) (.slice Ao11 t465.length co11)) (fun _ h_ => h_.1)))); (case side4 => exact (Kd.N_reads' HO464.out).2.1); (case side5 => refine (Kd.R_reads' (e := 40) (base := w.heap.size) (ok := fun k_ => True) (n := t465.length) (c := co11) ?_).2.2; exact (kr (Kd.R_mono (kF (p := ⟨gb470, 2, none⟩) (kF (p := ⟨gb470, 1, none⟩) (kF (p := ⟨gb470, 0, none⟩) (Kd.R_types HO467.out BK470.out (by decide)) (fun _ hk => hk.2) (.slice Ao8 t459.length co8)) (fun _ hk => hk.2) (.slice Ao10 t462.length co10)) (fun _ hk => hk.2) (.slice Ao11 t465.length co11)) (fun _ h_ => h_.1)))); (case side6 => exact (Kd.R_reads' HO467.out).2.1); rintro e w18 ⟨rfl, hb⟩; refine ⟨_, rfl, ?_⟩; have n0_ := aM (kB (kr (Kd.R_mono (kF (p := ⟨gb470, 2, none⟩) (kF (p := ⟨gb470, 1, none⟩) (kF (p := ⟨gb470, 0, none⟩) (Kd.R_types HO461.out BK470.out (by decide)) (fun _ hk => hk.2) (.slice Ao8 t459.length co8)) (fun _ hk => hk.2) (.slice Ao10 t462.length co10)) (fun _ hk => hk.2) (.slice Ao11 t465.length co11)) (fun _ h_ => h_.1))) hb); have n1_ := aM (Kd.N_below (by (with_reducible repeat (first | apply Kd.N_alloc | apply Kd.N_drewN | apply Kd.N_drew)); exact (Kd.N_mono (Kd.N_far (p := ⟨gb470, 2, none⟩) (Kd.N_far (p := ⟨gb470, 1, none⟩) (Kd.N_far (p := ⟨gb470, 0, none⟩) (Kd.N_mono HO464.out (fun k_ hk => (⟨hk, hk.2⟩ : _ ∧ k_ ≠ gb470))) (fun _ hk => hk.2) (.slice Ao8 t459.length co8)) (fun _ hk => hk.2) (.slice Ao10 t462.length co10)) (fun _ hk => hk.2) (.slice Ao11 t465.length co11)) (fun _ h_ => h_.1))) hb); have n2_ := aM (kB (kr (Kd.R_mono (kF (p := ⟨gb470, 2, none⟩) (kF (p := ⟨gb470, 1, none⟩) (kF (p := ⟨gb470, 0, none⟩) (Kd.R_types HO467.out BK470.out (by decide)) (fun _ hk => hk.2) (.slice Ao8 t459.length co8)) (fun _ hk => hk.2) (.slice Ao10 t462.length co10)) (fun _ hk => hk.2) (.slice Ao11 t465.length co11)) (fun _ h_ => h_.1))) hb); have n3_ := aM (bB (g := gb470) (o := .cells #[.slice Ao8 t459.length co8, .slice Ao10 t462.length co10, .slice Ao11 t465.length co11] 73 (0, 0)) (by (with_reducible repeat (first | refine blk_drewN ?_ _ | refine blk_drew ?_ | refine blk_alloc ?_ _)); refine blk_put (cs := #[.slice Ao8 t459.length co8, .slice Ao10 t462.length co10, .slice none 0 0]) ?_ 2 _ rfl; (with_reducible repeat (first | refine blk_drewN ?_ _ | refine blk_drew ?_ | refine blk_alloc ?_ _)); refine blk_put (cs := #[.slice Ao8 t459.length co8, .slice none 0 0, .slice none 0 0]) ?_ 1 _ rfl; (with_reducible repeat (first | refine blk_drewN ?_ _ | refine blk_drew ?_ | refine blk_alloc ?_ _)); refine blk_put (cs := #[.slice none 0 0, .slice none 0 0, .slice none 0 0]) ?_ 0 _ rfl; (with_reducible repeat (first | refine blk_drewN ?_ _ | refine blk_drew ?_ | refine blk_alloc ?_ _)); exact BK470.out) hb); have n4_ := aM (bS (bl HB.out) hb); clear HO461 HO464; clear HO467 BK470 HB; have HO461 := n0_; have HO464 := n1_; have HO467 := n2_; have BK470 := n3_; have HB := n4_; clear n0_ n1_ n2_ n3_ n4_; (try clear hb); have hcz19_0 := cI BK470.out 0; have hcz19_1 := cI BK470.out 1; have hcz19_2 := cI BK470.out 2; have hfz19_0 := bF BK470.out 0; have hfz19_1 := bF BK470.out 1; have hfz19_2 := bF BK470.out 2))
  go_meet
  case rel => exact ⟨_, (decide (t468 ≥ (t459.length : Int))), xE, H', ⟨by first | omega | exact Nat.le_refl _⟩, ⟨kr HO461.out⟩, ⟨by (with_reducible repeat (first | apply Kd.N_alloc | apply Kd.N_drewN | apply Kd.N_drew)); exact Kd.N_mono HO464.out (fun _ hk => ⟨hk.1.1, ⟨hk.1.2, hk.2⟩⟩)⟩, ⟨kr HO467.out⟩, ⟨by (with_reducible repeat (first | refine blk_drewN ?_ _ | refine blk_drew ?_ | refine blk_alloc ?_ _)); exact BK470.out⟩, ⟨bl HB.out⟩⟩
 case rest =>
  clear HC5
  try clear c1
  try clear p2
  try clear c3
  try clear c5
  try clear c7
  try clear c11
  try clear c13
  try clear c14
  try clear c14b0
  try clear hcz15_0
  try clear hcz15_1
  try clear hcz15_2
  try clear hcz17_0
  try clear hcz17_1
  try clear hcz17_2
  try clear hcz19_0
  try clear hcz19_1
  try clear hcz19_2
  try clear hcz20_0
  try clear hcz20_1
  try clear hcz20_2
  try clear hcz9_0
  try clear hcz9_1
  try clear hcz9_2
  try clear hfz15_0
  try clear hfz15_1
  try clear hfz15_2
  try clear hfz17_0
  try clear hfz17_1
  try clear hfz17_2
  try clear hfz19_0
  try clear hfz19_1
  try clear hfz19_2
  try clear hfz20_0
  try clear hfz20_1
  try clear hfz20_2
  try clear hfz9_0
  try clear hfz9_1
  try clear hfz9_2
  obtain ⟨kq, x28_4, rfl, HA, HJ4, HO_471000, HO_471001, HO_471002, BK470, HB⟩ := hcut
  cases kq with
  | zero => exact absurd HA.out (by simp [laws_FnFlushed.j0])
  | succ kj4 =>
   have H := HA.out
   clear HA
   simp only [laws_FnFlushed.j0] at H
   by_cases c22 : x28_4 = true
   case pos =>
    subst c22
    have H1 : ((impl_Gate.f kj4 t459 t462 t465 t468 t469).bind fun bt472 => ((laws_sameCard.f kj4 bt472.1 bt472.2.1 bt472.2.2 t459 t462 t465).bind fun t481 => (some t481))) = some true := by first | (rw [if_pos rfl] at H; exact H) | (rw [if_pos rfl] at H)
    clear H
    have H := H1
    clear H1
    replace H := Option.bind_eq_some_iff.mp H
    obtain ⟨⟨t472, t475, t478⟩, A230, H⟩ := H
    replace H : ((laws_sameCard.f kj4 t472 t475 t478 t459 t462 t465).bind fun t481 => (some t481)) = some true := H
    have A23 := aM A230
    clear A230
    replace H := Option.bind_eq_some_iff.mp H
    obtain ⟨t481, A240, H⟩ := H
    obtain rfl : t481 = true := Option.some.inj H
    have A24 := aM A240
    clear A240 H
    try go_wp2
    have n0_ := aM (Kd.R_drew HO_471000.out)
    have n1_ := aM (Kd.N_drew HO_471001.out)
    have n2_ := aM (Kd.R_drew HO_471002.out)
    have n3_ := aM (blk_drew BK470.out)
    have n4_ := aM (below_drew1 HB.out)
    clear HO_471000 HO_471001
    clear HO_471002 BK470 HB
    have HO_471000 := n0_
    have HO_471001 := n1_
    have HO_471002 := n2_
    have BK470 := n3_
    have HB := n4_
    clear n0_ n1_ n2_ n3_ n4_
    refine start_ (n := 7) (S := fun w' => w'.cell? ⟨gb470, 0, none⟩ = some (.slice Ao8 t459.length co8) ∧ w'.cell? ⟨gb470, 1, none⟩ = some (.slice Ao10 t462.length co10) ∧ w'.cell? ⟨gb470, 2, none⟩ = some (.slice Ao11 t465.length co11)) (ds := []) #[U,U,U,U,U,U,U] (by kernel_rfl) rfl rfl ⟨cI BK470.out 0, cI BK470.out 1, cI BK470.out 2⟩ (fun hHeld => ?_)
    generalize wc.drew = w25 at HO_471000 HO_471001 HO_471002 BK470 HB hHeld ⊢
    refine pure_ (i := 1) (N := some 30) (v := ?_) (a' := ?_) #[U,Y,U,U,U,U,U] rfl rfl (by kernel_rfl) (fun _ _ _ h => h) (Or.inl ⟨by rfl, ?_⟩) ?_ ?_
    rotate_left
    ·intro w'
     go_simp
     with_reducible rfl
    rotate_left
    ·simp only [Act.put, sA, sZ, sS, i64_w, i32_w]
     rfl
    refine pure_ (i := 2) (N := some 31) (v := ?_) (a' := ?_) #[U,Y,Y,U,U,U,U] rfl rfl (by kernel_rfl) (fun _ _ _ h => h) (Or.inl ⟨by rfl, ?_⟩) ?_ ?_
    rotate_left
    ·intro w'
     go_simp
     with_reducible rfl
    rotate_left
    ·simp only [Act.put, sA, sZ, sS, i64_w, i32_w]
     rfl
    refine take_ (i := 0) (N := some 29) (v := ?_) (a' := ?_) #[Y,Y,Y,U,U,U,U] rfl rfl (by kernel_rfl) (fun _ _ _ h => h) (Or.inl ⟨by rfl, ?_⟩) hHeld ?_ ?_
    rotate_left
    ·rintro w' ⟨s0, s1, s2⟩
     go_simp
     with_reducible rfl
    rotate_left
    ·simp only [Act.put, sA, sZ, sS, i64_w, i32_w]
     rfl
    refine take_ (i := 4) (N := some 33) (v := ?_) (a' := ?_) #[Y,Y,Y,U,Y,U,U] rfl rfl (by kernel_rfl) (fun _ _ _ h => h) (Or.inl ⟨by rfl, ?_⟩) hHeld ?_ ?_
    rotate_left
    ·rintro w' ⟨s0, s1, s2⟩
     go_simp
     with_reducible rfl
    rotate_left
    ·simp only [Act.put, sA, sZ, sS, i64_w, i32_w]
     rfl
    refine one_ (i := 3) (N := some 32) #[Y,Y,Y,Y,Y,U,U] rfl rfl (by kernel_rfl) (by decide) (fun K hK => ?_)
    refine goes_ Try.func56 (by kernel_rfl) rfl #[.agg #[.slice Ao8 t459.length co8, .slice Ao10 t462.length co10, .slice Ao11 t465.length co11], .int .i64 t468, .bool t469] (by rfl) rfl rfl xR ?_
    with_reducible refine (impl_Gate.calls kj4 _ _ t459 _ _ t462 _ _ t465 t468 t469 t472 t475 t478 _ ?side1 ?side2 ?side3 ?side4 ?side5 ?side6 A23.out).mono ?_
    (case side1 => repeat (first | exact (Kd.R_reads' HO_471000.out).2.2 | (with_reducible refine Kd.C_alloc ?_ _) | (with_reducible refine Kd.C_drewN ?_ _) | (with_reducible refine Kd.C_drew ?_)))
    (case side2 => exact (Kd.R_reads' HO_471000.out).2.1)
    (case side3 => repeat (first | exact (Kd.N_reads' HO_471001.out).2.2 | (with_reducible refine Kd.C_alloc ?_ _) | (with_reducible refine Kd.C_drewN ?_ _) | (with_reducible refine Kd.C_drew ?_)))
    (case side4 => exact (Kd.N_reads' HO_471001.out).2.1)
    (case side5 => repeat (first | exact (Kd.R_reads' HO_471002.out).2.2 | (with_reducible refine Kd.C_alloc ?_ _) | (with_reducible refine Kd.C_drewN ?_ _) | (with_reducible refine Kd.C_drew ?_)))
    (case side6 => exact (Kd.R_reads' HO_471002.out).2.1)
    rintro e w26 ⟨v473, v476, v479, rfl, ho0, ho1, ho2, hb⟩
    refine ⟨_, rfl, ?_⟩
    have n0_ := aM (Kd.R_elder' (kr HO_471000.out) (Kd.R_base ho0) hb)
    have n1_ := aM (Kd.N_mono (Kd.N_told (Kd.N_told (Kd.N_told (Kd.N_old (by (with_reducible repeat (first | apply Kd.N_alloc | apply Kd.N_drewN | apply Kd.N_drew)); exact HO_471001.out) hb) (Kd.R_base ho0)) (Kd.S_base ho1)) (Kd.R_base ho2)) (fun _ h_ => h_.1))
    have n2_ := aM (Kd.R_elder' (kr HO_471002.out) (Kd.R_base ho2) hb)
    have n3_ := aM (Kd.R_lower (Kd.R_new' ho0 (Kd.R_lt (kr HO_471000.out))) (below_size (bl HB.out)))
    have n4_ := aM (Kd.N_lower (Kd.N_mono (ok' := fun k_ => some k_ ≠ (v473 : Value).ownBlock ∧ some k_ ≠ (v479 : Value).ownBlock ∧ some k_ ≠ (.slice Ao8 t459.length co8 : Value).ownBlock ∧ some k_ ≠ (.slice Ao10 t462.length co10 : Value).ownBlock ∧ some k_ ≠ (.slice Ao11 t465.length co11 : Value).ownBlock ∧ k_ ≠ gb470) (Kd.S_N (Kd.S_bound (Kd.S_apart' (Kd.S_apart' ho1 (Kd.R_typed ho0) (by decide)) (Kd.R_typed ho2) (by decide)))) (fun k_ hk_ => ⟨hk_.1.1.2, hk_.1.2, (Kd.fresh' (Kd.R_lt (kr HO_471000.out)) k_ hk_.2.1), (Kd.fresh' (Kd.N_lt (by (with_reducible repeat (first | apply Kd.N_alloc | apply Kd.N_drewN | apply Kd.N_drew)); exact HO_471001.out)) k_ hk_.2.1), (Kd.fresh' (Kd.R_lt (kr HO_471002.out)) k_ hk_.2.1), (Kd.freshB (g := gb470) (o := .cells #[.slice Ao8 t459.length co8, .slice Ao10 t462.length co10, .slice Ao11 t465.length co11] 73 (0, 0)) (bk BK470.out) k_ hk_.2.1)⟩)) (below_size (bl HB.out)))
    have n5_ := aM (Kd.R_lower (Kd.R_new' ho2 (Kd.R_lt (kr HO_471002.out))) (below_size (bl HB.out)))
    have n6_ := aM (bB (g := gb470) (o := .cells #[.slice Ao8 t459.length co8, .slice Ao10 t462.length co10, .slice Ao11 t465.length co11] 73 (0, 0)) (bk BK470.out) hb)
    have n7_ := aM (bS (bl HB.out) hb)
    clear HO_471000 HO_471001
    clear HO_471002 BK470 HB
    have HO_471000 := n0_
    have HO_471001 := n1_
    have HO_471002 := n2_
    have HO474 := n3_
    have HO477 := n4_
    have HO480 := n5_
    have BK470 := n6_
    have HB := n7_
    clear n0_ n1_ n2_ n3_ n4_ n5_ n6_ n7_
    (try clear hb)
    (try clear hb2)
    (try clear hk)
    (try clear hi)
    (try clear ho0)
    (try clear ho1)
    (try clear ho2)
    obtain ⟨Ao27, co27, eo27⟩ := Kd.R_slice HO474.out
    (first | subst eo27 | (injection eo27 with f1_ f2_ f3_; have f4_ := f1_.symm; have f5_ := f3_.symm; clear f1_ f2_ f3_; subst f4_; subst f5_))
    obtain ⟨Ao28, co28, eo28⟩ := Kd.N_slice HO477.out
    (first | subst eo28 | (injection eo28 with f1_ f2_ f3_; have f4_ := f1_.symm; have f5_ := f3_.symm; clear f1_ f2_ f3_; subst f4_; subst f5_))
    obtain ⟨Ao29, co29, eo29⟩ := Kd.R_slice HO480.out
    (first | subst eo29 | (injection eo29 with f1_ f2_ f3_; have f4_ := f1_.symm; have f5_ := f3_.symm; clear f1_ f2_ f3_; subst f4_; subst f5_))
    refine hK.out _ _ ⟨cI BK470.out 0, cI BK470.out 1, cI BK470.out 2⟩ (fun hHeld => ?_)
    clear hK K
    refine norm_ (a' := ?_) ?_ ?_
    rotate_left
    ·show Act.put _ (some 32) _ = _
     simp only [Act.put, sA, sZ, sS, i64_w, i32_w]
     rfl
    refine one_ (i := 5) (N := some 34) #[Y,Y,Y,Y,Y,Y,U] rfl rfl (by kernel_rfl) (by decide) (fun K hK => ?_)
    refine goes_ Try.func55 (by kernel_rfl) rfl #[.agg #[.slice Ao27 t472.length co27, .slice Ao28 t475.length co28, .slice Ao29 t478.length co29], .agg #[.slice Ao8 t459.length co8, .slice Ao10 t462.length co10, .slice Ao11 t465.length co11]] (by rfl) rfl rfl xR ?_
    with_reducible refine (laws_sameCard.calls kj4 _ _ t472 _ _ t475 _ _ t478 _ _ t459 _ _ t462 _ _ t465 true _ ?side1 ?side2 ?side3 ?side4 ?side5 ?side6 ?side7 ?side8 ?side9 ?side10 ?side11 ?side12 A24.out).mono ?_
    (case side1 => repeat (first | exact (Kd.R_reads' HO474.out).2.2 | (with_reducible refine Kd.C_alloc ?_ _) | (with_reducible refine Kd.C_drewN ?_ _) | (with_reducible refine Kd.C_drew ?_)))
    (case side2 => exact (Kd.R_reads' HO474.out).2.1)
    (case side3 => repeat (first | exact (Kd.N_reads' HO477.out).2.2 | (with_reducible refine Kd.C_alloc ?_ _) | (with_reducible refine Kd.C_drewN ?_ _) | (with_reducible refine Kd.C_drew ?_)))
    (case side4 => exact (Kd.N_reads' HO477.out).2.1)
    (case side5 => repeat (first | exact (Kd.R_reads' HO480.out).2.2 | (with_reducible refine Kd.C_alloc ?_ _) | (with_reducible refine Kd.C_drewN ?_ _) | (with_reducible refine Kd.C_drew ?_)))
    (case side6 => exact (Kd.R_reads' HO480.out).2.1)
    (case side7 => repeat (first | exact (Kd.R_reads' HO_471000.out).2.2 | (with_reducible refine Kd.C_alloc ?_ _) | (with_reducible refine Kd.C_drewN ?_ _) | (with_reducible refine Kd.C_drew ?_)))
    (case side8 => exact (Kd.R_reads' HO_471000.out).2.1)
    (case side9 => repeat (first | exact (Kd.N_reads' HO_471001.out).2.2 | (with_reducible refine Kd.C_alloc ?_ _) | (with_reducible refine Kd.C_drewN ?_ _) | (with_reducible refine Kd.C_drew ?_)))
    (case side10 => exact (Kd.N_reads' HO_471001.out).2.1)
    (case side11 => repeat (first | exact (Kd.R_reads' HO_471002.out).2.2 | (with_reducible refine Kd.C_alloc ?_ _) | (with_reducible refine Kd.C_drewN ?_ _) | (with_reducible refine Kd.C_drew ?_)))
    (case side12 => exact (Kd.R_reads' HO_471002.out).2.1)
    rintro e w30 ⟨rfl, hb⟩
    refine ⟨_, rfl, ?_⟩
    have n0_ := aM (kB (kr HO_471000.out) hb)
    have n1_ := aM (Kd.N_below (by (with_reducible repeat (first | apply Kd.N_alloc | apply Kd.N_drewN | apply Kd.N_drew)); exact HO_471001.out) hb)
    have n2_ := aM (kB (kr HO_471002.out) hb)
    have n3_ := aM (kB (kr HO474.out) hb)
    have n4_ := aM (Kd.N_below (by (with_reducible repeat (first | apply Kd.N_alloc | apply Kd.N_drewN | apply Kd.N_drew)); exact HO477.out) hb)
    have n5_ := aM (kB (kr HO480.out) hb)
    have n6_ := aM (bB (g := gb470) (o := .cells #[.slice Ao8 t459.length co8, .slice Ao10 t462.length co10, .slice Ao11 t465.length co11] 73 (0, 0)) (bk BK470.out) hb)
    have n7_ := aM (bS (bl HB.out) hb)
    clear HO_471000 HO_471001
    clear HO_471002 HO474
    clear HO477 HO480
    clear BK470 HB
    have HO_471000 := n0_
    have HO_471001 := n1_
    have HO_471002 := n2_
    have HO474 := n3_
    have HO477 := n4_
    have HO480 := n5_
    have BK470 := n6_
    have HB := n7_
    clear n0_ n1_ n2_ n3_ n4_ n5_ n6_ n7_
    (try clear hb)
    (try clear hb2)
    (try clear hk)
    (try clear hi)
    refine hK.out _ _ ⟨cI BK470.out 0, cI BK470.out 1, cI BK470.out 2⟩ (fun hHeld => ?_)
    clear hK K
    refine norm_ (a' := ?_) ?_ ?_
    rotate_left
    ·show Act.put _ (some 34) _ = _
     simp only [Act.put, sA, sZ, sS, i64_w, i32_w]
     rfl
    refine pure_ (i := 6) (N := some 2) (v := ?_) (a' := ?_) #[Y,Y,Y,Y,Y,Y,Y] rfl rfl (by kernel_rfl) (fun _ _ _ h => h) (Or.inl ⟨by rfl, ?_⟩) ?_ ?_
    rotate_left
    ·intro w'
     go_simp
     with_reducible rfl
    rotate_left
    ·simp only [Act.put, sA, sZ, sS, i64_w, i32_w]
     rfl
    refine done_ (by kernel_rfl) ?_
    try go_wp2
    go_ret
    exact ⟨xW, bl HB.out⟩
   replace c22 := Bool.eq_false_iff.mpr c22
   subst c22
   have H1 : (if 0 ≤ t468 then (if t468 < (t459.length : Int) then ((impl_Gate.f kj4 t459 t462 t465 t468 (!(rdOf false t459 t468))).bind fun bt483 => ((impl_Gate.f kj4 bt483.1 bt483.2.1 bt483.2.2 t468 (rdOf false t459 t468)).bind fun bt493 => ((impl_Forget.f kj4 t465 t468).bind fun t503 => ((laws_sameHeard.f kj4 bt493.2.2 t503).bind fun t506 => (if t506 = true then ((laws_sameFlags.f kj4 bt493.1 t459).bind fun t507 => (if t507 = true then ((impl_CardOk.f kj4 bt493.1 bt493.2.1 bt493.2.2).bind fun t508 => (some t508)) else (some false))) else (some false)))))) else (none)) else (none)) = some true := by first | (rw [if_neg (show ¬ (false = true) by decide)] at H; exact H) | (rw [if_neg (show ¬ (false = true) by decide)] at H)
   clear H
   have H := H1
   clear H1
   by_cases c31 : 0 ≤ t468
   case neg =>
    rw [if_neg c31] at H
    exact absurd H (by simp)
   rw [if_pos c31] at H
   have c31b0 : decide (0 ≤ t468) = true := decide_eq_true c31
   clear c31
   by_cases c32 : t468 < (t459.length : Int)
   case neg =>
    rw [if_neg c32] at H
    exact absurd H (by simp)
   rw [if_pos c32] at H
   have c32b0 : decide (t468 < (t459.length : Int)) = true := decide_eq_true c32
   clear c32
   replace H := Option.bind_eq_some_iff.mp H
   obtain ⟨⟨t483, t486, t489⟩, A330, H⟩ := H
   replace H : ((impl_Gate.f kj4 t483 t486 t489 t468 (rdOf false t459 t468)).bind fun bt493 => ((impl_Forget.f kj4 t465 t468).bind fun t503 => ((laws_sameHeard.f kj4 bt493.2.2 t503).bind fun t506 => (if t506 = true then ((laws_sameFlags.f kj4 bt493.1 t459).bind fun t507 => (if t507 = true then ((impl_CardOk.f kj4 bt493.1 bt493.2.1 bt493.2.2).bind fun t508 => (some t508)) else (some false))) else (some false))))) = some true := H
   have A33 := aM A330
   clear A330
   replace H := Option.bind_eq_some_iff.mp H
   obtain ⟨⟨t493, t496, t499⟩, A340, H⟩ := H
   replace H : ((impl_Forget.f kj4 t465 t468).bind fun t503 => ((laws_sameHeard.f kj4 t499 t503).bind fun t506 => (if t506 = true then ((laws_sameFlags.f kj4 t493 t459).bind fun t507 => (if t507 = true then ((impl_CardOk.f kj4 t493 t496 t499).bind fun t508 => (some t508)) else (some false))) else (some false)))) = some true := H
   have A34 := aM A340
   clear A340
   replace H := Option.bind_eq_some_iff.mp H
   obtain ⟨t503, A350, H⟩ := H
   replace H : ((laws_sameHeard.f kj4 t499 t503).bind fun t506 => (if t506 = true then ((laws_sameFlags.f kj4 t493 t459).bind fun t507 => (if t507 = true then ((impl_CardOk.f kj4 t493 t496 t499).bind fun t508 => (some t508)) else (some false))) else (some false))) = some true := H
   have A35 := aM A350
   clear A350
   replace H := Option.bind_eq_some_iff.mp H
   obtain ⟨t506, A360, H⟩ := H
   replace H : (if t506 = true then ((laws_sameFlags.f kj4 t493 t459).bind fun t507 => (if t507 = true then ((impl_CardOk.f kj4 t493 t496 t499).bind fun t508 => (some t508)) else (some false))) else (some false)) = some true := H
   have A36 := aM A360
   clear A360
   by_cases c37 : t506 = true
   case neg =>
    replace c37 := Bool.eq_false_iff.mpr c37
    subst c37
    have H1 : (some false) = some true := by first | (rw [if_neg (show ¬ (false = true) by decide)] at H; exact H) | (rw [if_neg (show ¬ (false = true) by decide)] at H)
    clear H
    have H := H1
    clear H1
    exact absurd (Option.some.inj H) (by decide)
   subst c37
   have H1 : ((laws_sameFlags.f kj4 t493 t459).bind fun t507 => (if t507 = true then ((impl_CardOk.f kj4 t493 t496 t499).bind fun t508 => (some t508)) else (some false))) = some true := by first | (rw [if_pos rfl] at H; exact H) | (rw [if_pos rfl] at H)
   clear H
   have H := H1
   clear H1
   replace H := Option.bind_eq_some_iff.mp H
   obtain ⟨t507, A380, H⟩ := H
   replace H : (if t507 = true then ((impl_CardOk.f kj4 t493 t496 t499).bind fun t508 => (some t508)) else (some false)) = some true := H
   have A38 := aM A380
   clear A380
   by_cases c39 : t507 = true
   case neg =>
    replace c39 := Bool.eq_false_iff.mpr c39
    subst c39
    have H1 : (some false) = some true := by first | (rw [if_neg (show ¬ (false = true) by decide)] at H; exact H) | (rw [if_neg (show ¬ (false = true) by decide)] at H)
    clear H
    have H := H1
    clear H1
    exact absurd (Option.some.inj H) (by decide)
   subst c39
   have H1 : ((impl_CardOk.f kj4 t493 t496 t499).bind fun t508 => (some t508)) = some true := by first | (rw [if_pos rfl] at H; exact H) | (rw [if_pos rfl] at H)
   clear H
   have H := H1
   clear H1
   replace H := Option.bind_eq_some_iff.mp H
   obtain ⟨t508, A400, H⟩ := H
   obtain rfl : t508 = true := Option.some.inj H
   have A40 := aM A400
   clear A400 H
   try go_wp2
   have n0_ := aM (Kd.R_drew HO_471000.out)
   have n1_ := aM (Kd.N_drew HO_471001.out)
   have n2_ := aM (Kd.R_drew HO_471002.out)
   have n3_ := aM (blk_drew BK470.out)
   have n4_ := aM (below_drew1 HB.out)
   clear HO_471000 HO_471001
   clear HO_471002 BK470 HB
   have HO_471000 := n0_
   have HO_471001 := n1_
   have HO_471002 := n2_
   have BK470 := n3_
   have HB := n4_
   clear n0_ n1_ n2_ n3_ n4_
   have p482 : 0 ≤ (t468 : Int) := of_decide_eq_true (by first | (with_reducible assumption) | assumption)
   have q482 : t468 < (t459.length : Int) := of_decide_eq_true (by first | (with_reducible assumption) | assumption)
   obtain ⟨ad482, e482, hx482_0⟩ := Kd.at_bool (Kd.R_reads' HO_471000.out).2.2 t468 p482 q482
   cases e482
   replace p482 := eq_true p482
   replace q482 := eq_true q482
   have p492 : 0 ≤ (t468 : Int) := of_decide_eq_true (by first | (with_reducible assumption) | assumption)
   have q492 : t468 < (t459.length : Int) := of_decide_eq_true (by first | (with_reducible assumption) | assumption)
   obtain ⟨ad492, e492, hx492_0⟩ := Kd.at_bool (Kd.R_reads' HO_471000.out).2.2 t468 p492 q492
   obtain rfl : ad482 = ad492 := (by injection e492)
   replace p492 := eq_true p492
   replace q492 := eq_true q492
   refine start_ (n := 18) (S := fun w' => w'.cell? ⟨gb470, 0, none⟩ = some (.slice (some ad482) t459.length co8) ∧ w'.cell? ⟨gb470, 1, none⟩ = some (.slice Ao10 t462.length co10) ∧ w'.cell? ⟨gb470, 2, none⟩ = some (.slice Ao11 t465.length co11) ∧ w'.cell? (ad482.add (t468).toNat) = some (.bool (rdOf false t459 t468)) ∧ w'.cell? (ad482.add (t468).toNat) = some (.bool (rdOf false t459 t468))) (ds := []) #[U,U,U,U,U,U,U,U,U,U,U,U,U,U,U,U,U,U] (by kernel_rfl) rfl rfl ⟨cI BK470.out 0, cI BK470.out 1, cI BK470.out 2, hx482_0, hx492_0⟩ (fun hHeld => ?_); refine with_tabW laws_FnFlushed.tab6 laws_FnFlushed.bits6 (fun HT_ HW_ => ?_)
   generalize wc.drew = w41 at HO_471000 HO_471001 HO_471002 BK470 HB hx482_0 hx492_0 hHeld ⊢
   refine pure_ (i := 1) (N := some 36) (v := ?_) (a' := ?_) #[U,Y,U,U,U,U,U,U,U,U,U,U,U,U,U,U,U,U] rfl rfl (any_of HT_.out (by kernel_rfl)) (fun _ _ _ h => h) (Or.inl ⟨by rfl, ?_⟩) ?_ ?_
   rotate_left
   ·intro w'
    go_simp
    with_reducible rfl
   rotate_left
   ·simp only [Act.put, sA, sZ, sS, i64_w, i32_w]
    rfl
   refine pure_ (i := 2) (N := some 37) (v := ?_) (a' := ?_) #[U,Y,Y,U,U,U,U,U,U,U,U,U,U,U,U,U,U,U] rfl rfl (any_of HT_.out (by kernel_rfl)) (fun _ _ _ h => h) (Or.inl ⟨by rfl, ?_⟩) ?_ ?_
   rotate_left
   ·intro w'
    go_simp
    with_reducible rfl
   rotate_left
   ·simp only [Act.put, sA, sZ, sS, i64_w, i32_w]
    rfl
   refine pure_ (i := 4) (N := some 39) (v := ?_) (a' := ?_) #[U,Y,Y,U,Y,U,U,U,U,U,U,U,U,U,U,U,U,U] rfl rfl (any_of HT_.out (by kernel_rfl)) (fun _ _ _ h => h) (Or.inl ⟨by rfl, ?_⟩) ?_ ?_
   rotate_left
   ·intro w'
    go_simp
    with_reducible rfl
   rotate_left
   ·simp only [Act.put, sA, sZ, sS, i64_w, i32_w]
    rfl
   refine pure_ (i := 9) (N := some 44) (v := ?_) (a' := ?_) #[U,Y,Y,U,Y,U,U,U,U,Y,U,U,U,U,U,U,U,U] rfl rfl (any_of HT_.out (by kernel_rfl)) (fun _ _ _ h => h) (Or.inl ⟨by rfl, ?_⟩) ?_ ?_
   rotate_left
   ·intro w'
    go_simp
    with_reducible rfl
   rotate_left
   ·simp only [Act.put, sA, sZ, sS, i64_w, i32_w]
    rfl
   refine pure_ (i := 10) (N := some 45) (v := ?_) (a' := ?_) #[U,Y,Y,U,Y,U,U,U,U,Y,Y,U,U,U,U,U,U,U] rfl rfl (any_of HT_.out (by kernel_rfl)) (fun _ _ _ h => h) (Or.inl ⟨by rfl, ?_⟩) ?_ ?_
   rotate_left
   ·intro w'
    go_simp
    with_reducible rfl
   rotate_left
   ·simp only [Act.put, sA, sZ, sS, i64_w, i32_w]
    rfl
   refine pure_ (i := 12) (N := some 47) (v := ?_) (a' := ?_) #[U,Y,Y,U,Y,U,U,U,U,Y,Y,U,Y,U,U,U,U,U] rfl rfl (any_of HT_.out (by kernel_rfl)) (fun _ _ _ h => h) (Or.inl ⟨by rfl, ?_⟩) ?_ ?_
   rotate_left
   ·intro w'
    go_simp
    with_reducible rfl
   rotate_left
   ·simp only [Act.put, sA, sZ, sS, i64_w, i32_w]
    rfl
   refine take_ (i := 0) (N := some 35) (v := ?_) (a' := ?_) #[Y,Y,Y,U,Y,U,U,U,U,Y,Y,U,Y,U,U,U,U,U] rfl rfl (take_ofW HT_.out HW_.out (by kernel_rfl)) (fun _ _ _ h => h) (Or.inl ⟨by rfl, ?_⟩) hHeld ?_ ?_
   rotate_left
   ·rintro w' ⟨s0, s1, s2, s3, s4⟩
    go_simp
    with_reducible rfl
   rotate_left
   ·simp only [Act.put, sA, sZ, sS, i64_w, i32_w]
    rfl
   refine take_ (i := 3) (N := some 38) (v := ?_) (a' := ?_) #[Y,Y,Y,Y,Y,U,U,U,U,Y,Y,U,Y,U,U,U,U,U] rfl rfl (take_ofW HT_.out HW_.out (by kernel_rfl)) (fun _ _ _ h => h) (Or.inl ⟨by rfl, ?_⟩) hHeld ?_ ?_
   rotate_left
   ·rintro w' ⟨s0, s1, s2, s3, s4⟩
    go_simp
    with_reducible rfl
   rotate_left
   ·simp only [Act.put, sA, sZ, sS, i64_w, i32_w]
    rfl
   refine pure_ (i := 5) (N := some 40) (v := ?_) (a' := ?_) #[Y,Y,Y,Y,Y,Y,U,U,U,Y,Y,U,Y,U,U,U,U,U] rfl rfl (any_of HT_.out (by kernel_rfl)) (fun _ _ _ h => h) (Or.inl ⟨by rfl, ?_⟩) ?_ ?_
   rotate_left
   ·intro w'
    go_simp
    with_reducible rfl
   rotate_left
   ·simp only [Act.put, sA, sZ, sS, i64_w, i32_w]
    rfl
   refine take_ (i := 6) (N := some 41) (v := ?_) (a' := ?_) #[Y,Y,Y,Y,Y,Y,Y,U,U,Y,Y,U,Y,U,U,U,U,U] rfl rfl (take_ofW HT_.out HW_.out (by kernel_rfl)) (fun _ _ _ h => h) (Or.inl ⟨by rfl, ?_⟩) hHeld ?_ ?_
   rotate_left
   ·rintro w' ⟨s0, s1, s2, s3, s4⟩
    go_simp
    with_reducible rfl
   rotate_left
   ·simp only [Act.put, sA, sZ, sS, i64_w, i32_w]
    rfl
   refine pure_ (i := 7) (N := some 42) (v := ?_) (a' := ?_) #[Y,Y,Y,Y,Y,Y,Y,Y,U,Y,Y,U,Y,U,U,U,U,U] rfl rfl (any_of HT_.out (by kernel_rfl)) (fun _ _ _ h => h) (Or.inl ⟨by rfl, ?_⟩) ?_ ?_
   rotate_left
   ·intro w'
    go_simp
    with_reducible rfl
   rotate_left
   ·simp only [Act.put, sA, sZ, sS, i64_w, i32_w]
    rfl
   refine take_ (i := 11) (N := some 46) (v := ?_) (a' := ?_) #[Y,Y,Y,Y,Y,Y,Y,Y,U,Y,Y,Y,Y,U,U,U,U,U] rfl rfl (take_ofW HT_.out HW_.out (by kernel_rfl)) (fun _ _ _ h => h) (Or.inl ⟨by rfl, ?_⟩) hHeld ?_ ?_
   rotate_left
   ·rintro w' ⟨s0, s1, s2, s3, s4⟩
    go_simp
    with_reducible rfl
   rotate_left
   ·simp only [Act.put, sA, sZ, sS, i64_w, i32_w]
    rfl
   refine pure_ (i := 13) (N := some 48) (v := ?_) (a' := ?_) #[Y,Y,Y,Y,Y,Y,Y,Y,U,Y,Y,Y,Y,Y,U,U,U,U] rfl rfl (any_of HT_.out (by kernel_rfl)) (fun _ _ _ h => h) (Or.inl ⟨by rfl, ?_⟩) ?_ ?_
   rotate_left
   ·intro w'
    go_simp
    with_reducible rfl
   rotate_left
   ·simp only [Act.put, sA, sZ, sS, i64_w, i32_w]
    rfl
   refine take_ (i := 14) (N := some 49) (v := ?_) (a' := ?_) #[Y,Y,Y,Y,Y,Y,Y,Y,U,Y,Y,Y,Y,Y,Y,U,U,U] rfl rfl (take_ofW HT_.out HW_.out (by kernel_rfl)) (fun _ _ _ h => h) (Or.inl ⟨by rfl, ?_⟩) hHeld ?_ ?_
   rotate_left
   ·rintro w' ⟨s0, s1, s2, s3, s4⟩
    go_simp
    with_reducible rfl
   rotate_left
   ·simp only [Act.put, sA, sZ, sS, i64_w, i32_w]
    rfl
   refine join_ (σ := Value × Value × Value × Value × Value × Value × Nat) 1 #[Y,Y,Y,Y,Y,Y,Y,Y,Y,Y,Y,Y,Y,Y,Y,Y,Y,U] (fun s_ => [(43, .agg #[s_.1, s_.2.1, s_.2.2.1]), (50, .agg #[s_.2.2.2.1, s_.2.2.2.2.1, s_.2.2.2.2.2.1]), (6, .pointer (some ⟨s_.2.2.2.2.2.2, 0, none⟩))]) (fun s_ w' => (w'.cell? ⟨gb470, 0, none⟩ = some (.slice (some ad482) t459.length co8) ∧ w'.cell? ⟨gb470, 1, none⟩ = some (.slice Ao10 t462.length co10) ∧ w'.cell? ⟨gb470, 2, none⟩ = some (.slice Ao11 t465.length co11) ∧ w'.cell? (ad482.add (t468).toNat) = some (.bool (rdOf false t459 t468)) ∧ w'.cell? (ad482.add (t468).toNat) = some (.bool (rdOf false t459 t468))) ∧ (Kd.R Kd.bool 4 w' w.heap.size (fun k_ => some k_ ≠ (s_.2.2.2.1 : Value).ownBlock ∧ some k_ ≠ (.slice (some ad482) t459.length co8 : Value).ownBlock) s_.1 t483) ∧ (Kd.N k129 129 w' w.heap.size (fun k_ => some k_ ≠ (s_.1 : Value).ownBlock ∧ some k_ ≠ (s_.2.2.1 : Value).ownBlock ∧ some k_ ≠ (s_.2.2.2.1 : Value).ownBlock ∧ some k_ ≠ (s_.2.2.2.2.1 : Value).ownBlock ∧ some k_ ≠ (s_.2.2.2.2.2.1 : Value).ownBlock ∧ some k_ ≠ (.slice (some ad482) t459.length co8 : Value).ownBlock ∧ some k_ ≠ (.slice Ao10 t462.length co10 : Value).ownBlock ∧ some k_ ≠ (.slice Ao11 t465.length co11 : Value).ownBlock ∧ k_ ≠ gb470 ∧ k_ ≠ s_.2.2.2.2.2.2) s_.2.1 t486) ∧ (Kd.R k40 40 w' w.heap.size (fun k_ => some k_ ≠ (s_.2.2.2.2.2.1 : Value).ownBlock ∧ some k_ ≠ (.slice Ao11 t465.length co11 : Value).ownBlock) s_.2.2.1 t489) ∧ (Kd.R Kd.bool 4 w' w.heap.size (fun k_ => some k_ ≠ (s_.1 : Value).ownBlock ∧ some k_ ≠ (.slice (some ad482) t459.length co8 : Value).ownBlock) s_.2.2.2.1 t493) ∧ (Kd.N k129 129 w' w.heap.size (fun k_ => some k_ ≠ (s_.1 : Value).ownBlock ∧ some k_ ≠ (s_.2.1 : Value).ownBlock ∧ some k_ ≠ (s_.2.2.1 : Value).ownBlock ∧ some k_ ≠ (s_.2.2.2.1 : Value).ownBlock ∧ some k_ ≠ (s_.2.2.2.2.2.1 : Value).ownBlock ∧ some k_ ≠ (.slice (some ad482) t459.length co8 : Value).ownBlock ∧ some k_ ≠ (.slice Ao10 t462.length co10 : Value).ownBlock ∧ some k_ ≠ (.slice Ao11 t465.length co11 : Value).ownBlock ∧ k_ ≠ gb470 ∧ k_ ≠ s_.2.2.2.2.2.2) s_.2.2.2.2.1 t496) ∧ (Kd.R k40 40 w' w.heap.size (fun k_ => some k_ ≠ (s_.2.2.1 : Value).ownBlock ∧ some k_ ≠ (.slice Ao11 t465.length co11 : Value).ownBlock) s_.2.2.2.2.2.1 t499) ∧ (Kd.R Kd.bool 4 w' w.heap.size (fun k_ => some k_ ≠ (s_.1 : Value).ownBlock ∧ some k_ ≠ (s_.2.2.2.1 : Value).ownBlock) (.slice (some ad482) t459.length co8) t459) ∧ (Kd.N k129 129 w' w.heap.size (fun k_ => some k_ ≠ (s_.1 : Value).ownBlock ∧ some k_ ≠ (s_.2.1 : Value).ownBlock ∧ some k_ ≠ (s_.2.2.1 : Value).ownBlock ∧ some k_ ≠ (s_.2.2.2.1 : Value).ownBlock ∧ some k_ ≠ (s_.2.2.2.2.1 : Value).ownBlock ∧ some k_ ≠ (s_.2.2.2.2.2.1 : Value).ownBlock ∧ some k_ ≠ (.slice (some ad482) t459.length co8 : Value).ownBlock ∧ some k_ ≠ (.slice Ao11 t465.length co11 : Value).ownBlock ∧ k_ ≠ gb470 ∧ k_ ≠ s_.2.2.2.2.2.2) (.slice Ao10 t462.length co10) t462) ∧ (Kd.R k40 40 w' w.heap.size (fun k_ => some k_ ≠ (s_.2.2.1 : Value).ownBlock ∧ some k_ ≠ (s_.2.2.2.2.2.1 : Value).ownBlock) (.slice Ao11 t465.length co11) t465) ∧ (w'.heap[gb470]? = some (.cells #[.slice (some ad482) t459.length co8, .slice Ao10 t462.length co10, .slice Ao11 t465.length co11] 73 (0, 0))) ∧ (w'.heap[s_.2.2.2.2.2.2]? = some (.cells #[.slice none 0 0, .slice none 0 0, .slice none 0 0] 73 (0, 0))) ∧ (w.heap.size ≤ s_.2.2.2.2.2.2) ∧ (w.heap.size ≤ s_.2.2.2.2.2.2) ∧ (gb470 ≠ s_.2.2.2.2.2.2) ∧ (s_.2.2.2.2.2.2 ≠ gb470) ∧ (Below w.heap.size w w')) ?_ ?_
   rotate_left
   ·intro hCont
    refine two_ (i := 8) (j := 16) (Ni := some 43) (Nj := some 6) #[Y,Y,Y,Y,Y,Y,Y,Y,Y,Y,Y,Y,Y,Y,Y,U,U,U] #[Y,Y,Y,Y,Y,Y,Y,Y,U,Y,Y,Y,Y,Y,Y,U,Y,U] rfl rfl rfl rfl (two_of HT_.out (by kernel_rfl)) (by decide) (by decide) (fun K hK => ?_) (fun K hK => ?_)
    ·skip
     refine goes_ Try.func56 (by kernel_rfl) rfl #[.agg #[.slice (some ad482) t459.length co8, .slice Ao10 t462.length co10, .slice Ao11 t465.length co11], .int .i64 t468, .bool (!(rdOf false t459 t468))] (by rfl) rfl rfl xR ?_
     with_reducible refine (impl_Gate.calls kj4 _ _ t459 _ _ t462 _ _ t465 t468 (!(rdOf false t459 t468)) t483 t486 t489 _ ?side1 ?side2 ?side3 ?side4 ?side5 ?side6 A33.out).mono ?_
     (case side1 => repeat (first | exact (Kd.R_reads' HO_471000.out).2.2 | (with_reducible refine Kd.C_alloc ?_ _) | (with_reducible refine Kd.C_drewN ?_ _) | (with_reducible refine Kd.C_drew ?_)))
     (case side2 => exact (Kd.R_reads' HO_471000.out).2.1)
     (case side3 => repeat (first | exact (Kd.N_reads' HO_471001.out).2.2 | (with_reducible refine Kd.C_alloc ?_ _) | (with_reducible refine Kd.C_drewN ?_ _) | (with_reducible refine Kd.C_drew ?_)))
     (case side4 => exact (Kd.N_reads' HO_471001.out).2.1)
     (case side5 => repeat (first | exact (Kd.R_reads' HO_471002.out).2.2 | (with_reducible refine Kd.C_alloc ?_ _) | (with_reducible refine Kd.C_drewN ?_ _) | (with_reducible refine Kd.C_drew ?_)))
     (case side6 => exact (Kd.R_reads' HO_471002.out).2.1)
     rintro e w42 ⟨v484, v487, v490, rfl, ho0, ho1, ho2, hb⟩
     have HS3_ := (hb.cell (World.block_lt_of_cell? _ _ (hHeld.2.2.2.1))).trans (hHeld.2.2.2.1)
     have HS4_ := (hb.cell (World.block_lt_of_cell? _ _ (hHeld.2.2.2.2))).trans (hHeld.2.2.2.2)
     refine ⟨_, rfl, ?_⟩
     have n0_ := aM (Kd.R_elder' (kr HO_471000.out) (Kd.R_base ho0) hb)
     have n1_ := aM (Kd.N_mono (Kd.N_told (Kd.N_told (Kd.N_told (Kd.N_old (by (with_reducible repeat (first | apply Kd.N_alloc | apply Kd.N_drewN | apply Kd.N_drew)); exact HO_471001.out) hb) (Kd.R_base ho0)) (Kd.S_base ho1)) (Kd.R_base ho2)) (fun _ h_ => h_.1))
     have n2_ := aM (Kd.R_elder' (kr HO_471002.out) (Kd.R_base ho2) hb)
     have n3_ := aM (Kd.R_lower (Kd.R_new' ho0 (Kd.R_lt (kr HO_471000.out))) (below_size (bl HB.out)))
     have n4_ := aM (Kd.N_lower (Kd.N_mono (ok' := fun k_ => some k_ ≠ (v484 : Value).ownBlock ∧ some k_ ≠ (v490 : Value).ownBlock ∧ some k_ ≠ (.slice (some ad482) t459.length co8 : Value).ownBlock ∧ some k_ ≠ (.slice Ao10 t462.length co10 : Value).ownBlock ∧ some k_ ≠ (.slice Ao11 t465.length co11 : Value).ownBlock ∧ k_ ≠ gb470) (Kd.S_N (Kd.S_bound (Kd.S_apart' (Kd.S_apart' ho1 (Kd.R_typed ho0) (by decide)) (Kd.R_typed ho2) (by decide)))) (fun k_ hk_ => ⟨hk_.1.1.2, hk_.1.2, (Kd.fresh' (Kd.R_lt (kr HO_471000.out)) k_ hk_.2.1), (Kd.fresh' (Kd.N_lt (by (with_reducible repeat (first | apply Kd.N_alloc | apply Kd.N_drewN | apply Kd.N_drew)); exact HO_471001.out)) k_ hk_.2.1), (Kd.fresh' (Kd.R_lt (kr HO_471002.out)) k_ hk_.2.1), (Kd.freshB (g := gb470) (o := .cells #[.slice (some ad482) t459.length co8, .slice Ao10 t462.length co10, .slice Ao11 t465.length co11] 73 (0, 0)) (bk BK470.out) k_ hk_.2.1)⟩)) (below_size (bl HB.out)))
     have n5_ := aM (Kd.R_lower (Kd.R_new' ho2 (Kd.R_lt (kr HO_471002.out))) (below_size (bl HB.out)))
     have n6_ := aM (bB (g := gb470) (o := .cells #[.slice (some ad482) t459.length co8, .slice Ao10 t462.length co10, .slice Ao11 t465.length co11] 73 (0, 0)) (bk BK470.out) hb)
     have n7_ := aM (bS (bl HB.out) hb)
     clear HO_471000 HO_471001
     clear HO_471002 BK470 HB
     have HO_471000 := n0_
     have HO_471001 := n1_
     have HO_471002 := n2_
     have HO485 := n3_
     have HO488 := n4_
     have HO491 := n5_
     have BK470 := n6_
     have HB := n7_
     clear n0_ n1_ n2_ n3_ n4_ n5_ n6_ n7_
     (try clear hb)
     (try clear hb2)
     (try clear hk)
     (try clear hi)
     (try clear ho0)
     (try clear ho1)
     (try clear ho2)
     obtain ⟨Ao43, co43, eo43⟩ := Kd.R_slice HO485.out
     (first | subst eo43 | (injection eo43 with f1_ f2_ f3_; have f4_ := f1_.symm; have f5_ := f3_.symm; clear f1_ f2_ f3_; subst f4_; subst f5_))
     obtain ⟨Ao44, co44, eo44⟩ := Kd.N_slice HO488.out
     (first | subst eo44 | (injection eo44 with f1_ f2_ f3_; have f4_ := f1_.symm; have f5_ := f3_.symm; clear f1_ f2_ f3_; subst f4_; subst f5_))
     obtain ⟨Ao45, co45, eo45⟩ := Kd.R_slice HO491.out
     (first | subst eo45 | (injection eo45 with f1_ f2_ f3_; have f4_ := f1_.symm; have f5_ := f3_.symm; clear f1_ f2_ f3_; subst f4_; subst f5_))
     refine hK.out _ _ ⟨cI BK470.out 0, cI BK470.out 1, cI BK470.out 2, HS3_, HS4_⟩ (fun hHeld => ?_)
     clear hK K
     refine norm_ (a' := ?_) ?_ ?_
     rotate_left
     ·show Act.put _ (some 43) _ = _
      simp only [Act.put, sA, sZ, sS, i64_w, i32_w]
      rfl
     refine two_ (i := 15) (j := 16) (Ni := some 50) (Nj := some 6) #[Y,Y,Y,Y,Y,Y,Y,Y,Y,Y,Y,Y,Y,Y,Y,Y,U,U] #[Y,Y,Y,Y,Y,Y,Y,Y,Y,Y,Y,Y,Y,Y,Y,U,Y,U] rfl rfl rfl rfl (two_of HT_.out (by kernel_rfl)) (by decide) (by decide) (fun K hK => ?_) (fun K hK => ?_)
     ·skip
      refine goes_ Try.func56 (by kernel_rfl) rfl #[.agg #[.slice Ao43 t483.length co43, .slice Ao44 t486.length co44, .slice Ao45 t489.length co45], .int .i64 t468, .bool (rdOf false t459 t468)] (by rfl) rfl rfl xR ?_
      with_reducible refine (impl_Gate.calls kj4 _ _ t483 _ _ t486 _ _ t489 t468 (rdOf false t459 t468) t493 t496 t499 _ ?side1 ?side2 ?side3 ?side4 ?side5 ?side6 A34.out).mono ?_
      (case side1 => repeat (first | exact (Kd.R_reads' HO485.out).2.2 | (with_reducible refine Kd.C_alloc ?_ _) | (with_reducible refine Kd.C_drewN ?_ _) | (with_reducible refine Kd.C_drew ?_)))
      (case side2 => exact (Kd.R_reads' HO485.out).2.1)
      (case side3 => repeat (first | exact (Kd.N_reads' HO488.out).2.2 | (with_reducible refine Kd.C_alloc ?_ _) | (with_reducible refine Kd.C_drewN ?_ _) | (with_reducible refine Kd.C_drew ?_)))
      (case side4 => exact (Kd.N_reads' HO488.out).2.1)
      (case side5 => repeat (first | exact (Kd.R_reads' HO491.out).2.2 | (with_reducible refine Kd.C_alloc ?_ _) | (with_reducible refine Kd.C_drewN ?_ _) | (with_reducible refine Kd.C_drew ?_)))
      (case side6 => exact (Kd.R_reads' HO491.out).2.1)
      rintro e w46 ⟨v494, v497, v500, rfl, ho0, ho1, ho2, hb⟩
      have HS3_ := (hb.cell (World.block_lt_of_cell? _ _ (hHeld.2.2.2.1))).trans (hHeld.2.2.2.1)
      have HS4_ := (hb.cell (World.block_lt_of_cell? _ _ (hHeld.2.2.2.2))).trans (hHeld.2.2.2.2)
      refine ⟨_, rfl, ?_⟩
      have n0_ := aM (Kd.R_elder' (kr HO_471000.out) (Kd.R_base ho0) hb)
      have n1_ := aM (Kd.N_mono (Kd.N_told (Kd.N_told (Kd.N_told (Kd.N_old (by (with_reducible repeat (first | apply Kd.N_alloc | apply Kd.N_drewN | apply Kd.N_drew)); exact HO_471001.out) hb) (Kd.R_base ho0)) (Kd.S_base ho1)) (Kd.R_base ho2)) (fun _ h_ => h_.1))
      have n2_ := aM (Kd.R_elder' (kr HO_471002.out) (Kd.R_base ho2) hb)
      have n3_ := aM (Kd.R_elder' (kr HO485.out) (Kd.R_base ho0) hb)
      have n4_ := aM (Kd.N_mono (Kd.N_told (Kd.N_told (Kd.N_told (Kd.N_old (by (with_reducible repeat (first | apply Kd.N_alloc | apply Kd.N_drewN | apply Kd.N_drew)); exact HO488.out) hb) (Kd.R_base ho0)) (Kd.S_base ho1)) (Kd.R_base ho2)) (fun _ h_ => h_.1))
      have n5_ := aM (Kd.R_elder' (kr HO491.out) (Kd.R_base ho2) hb)
      have n6_ := aM (Kd.R_lower (Kd.R_new' (Kd.R_new' ho0 (Kd.R_lt (kr HO_471000.out))) (Kd.R_lt (kr HO485.out))) (below_size (bl HB.out)))
      have n7_ := aM (Kd.N_lower (Kd.N_mono (ok' := fun k_ => some k_ ≠ (v494 : Value).ownBlock ∧ some k_ ≠ (v500 : Value).ownBlock ∧ some k_ ≠ (.slice (some ad482) t459.length co8 : Value).ownBlock ∧ some k_ ≠ (.slice Ao10 t462.length co10 : Value).ownBlock ∧ some k_ ≠ (.slice Ao11 t465.length co11 : Value).ownBlock ∧ some k_ ≠ (.slice Ao43 t483.length co43 : Value).ownBlock ∧ some k_ ≠ (.slice Ao44 t486.length co44 : Value).ownBlock ∧ some k_ ≠ (.slice Ao45 t489.length co45 : Value).ownBlock ∧ k_ ≠ gb470) (Kd.S_N (Kd.S_bound (Kd.S_apart' (Kd.S_apart' ho1 (Kd.R_typed ho0) (by decide)) (Kd.R_typed ho2) (by decide)))) (fun k_ hk_ => ⟨hk_.1.1.2, hk_.1.2, (Kd.fresh' (Kd.R_lt (kr HO_471000.out)) k_ hk_.2.1), (Kd.fresh' (Kd.N_lt (by (with_reducible repeat (first | apply Kd.N_alloc | apply Kd.N_drewN | apply Kd.N_drew)); exact HO_471001.out)) k_ hk_.2.1), (Kd.fresh' (Kd.R_lt (kr HO_471002.out)) k_ hk_.2.1), (Kd.fresh' (Kd.R_lt (kr HO485.out)) k_ hk_.2.1), (Kd.fresh' (Kd.N_lt (by (with_reducible repeat (first | apply Kd.N_alloc | apply Kd.N_drewN | apply Kd.N_drew)); exact HO488.out)) k_ hk_.2.1), (Kd.fresh' (Kd.R_lt (kr HO491.out)) k_ hk_.2.1), (Kd.freshB (g := gb470) (o := .cells #[.slice (some ad482) t459.length co8, .slice Ao10 t462.length co10, .slice Ao11 t465.length co11] 73 (0, 0)) (bk BK470.out) k_ hk_.2.1)⟩)) (below_size (bl HB.out)))
      have n8_ := aM (Kd.R_lower (Kd.R_new' (Kd.R_new' ho2 (Kd.R_lt (kr HO_471002.out))) (Kd.R_lt (kr HO491.out))) (below_size (bl HB.out)))
      have n9_ := aM (bB (g := gb470) (o := .cells #[.slice (some ad482) t459.length co8, .slice Ao10 t462.length co10, .slice Ao11 t465.length co11] 73 (0, 0)) (bk BK470.out) hb)
      have n10_ := aM (bS (bl HB.out) hb)
      clear HO_471000 HO_471001
      clear HO_471002 HO485
      clear HO488 HO491
      clear BK470 HB
      have HO_471000 := n0_
      have HO_471001 := n1_
      have HO_471002 := n2_
      have HO485 := n3_
      have HO488 := n4_
      have HO491 := n5_
      have HO495 := n6_
      have HO498 := n7_
      have HO501 := n8_
      have BK470 := n9_
      have HB := n10_
      clear n0_ n1_ n2_ n3_ n4_ n5_ n6_ n7_ n8_ n9_ n10_
      (try clear hb)
      (try clear hb2)
      (try clear hk)
      (try clear hi)
      (try clear ho0)
      (try clear ho1)
      (try clear ho2)
      refine hK.out _ _ ⟨cI BK470.out 0, cI BK470.out 1, cI BK470.out 2, HS3_, HS4_⟩ (fun hHeld => ?_)
      clear hK K
      refine norm_ (a' := ?_) ?_ ?_
      rotate_left
      ·show Act.put _ (some 50) _ = _
       simp only [Act.put, sA, sZ, sS, i64_w, i32_w]
       rfl
      refine one_ (i := 16) (N := some 6) #[Y,Y,Y,Y,Y,Y,Y,Y,Y,Y,Y,Y,Y,Y,Y,Y,Y,U] rfl rfl (one_of HT_.out (by kernel_rfl)) (by decide) (fun K hK => ?_)
      refine box_step ?hg (N := 6) ?hd (cs := #[.slice none 0 0, .slice none 0 0, .slice none 0 0]) (t := 73) ?hr ?_; (case hd => rfl); (case hg => rfl); (case hr => first | (go_simp; done) | (go_simp; rfl))
      intro gb502 hg w47 hbox hb
      have HS3_ := (hb.cell (World.block_lt_of_cell? _ _ (hHeld.2.2.2.1))).trans (hHeld.2.2.2.1)
      have HS4_ := (hb.cell (World.block_lt_of_cell? _ _ (hHeld.2.2.2.2))).trans (hHeld.2.2.2.2)
      have n0_ := aM (kB (kr HO_471000.out) hb)
      have n1_ := aM (Kd.N_below (Kd.N_elderB (by (with_reducible repeat (first | apply Kd.N_alloc | apply Kd.N_drewN | apply Kd.N_drew)); exact HO_471001.out) gb502 (Nat.le_of_eq hg.symm)) hb)
      have n2_ := aM (kB (kr HO_471002.out) hb)
      have n3_ := aM (kB (kr HO485.out) hb)
      have n4_ := aM (Kd.N_below (Kd.N_elderB (by (with_reducible repeat (first | apply Kd.N_alloc | apply Kd.N_drewN | apply Kd.N_drew)); exact HO488.out) gb502 (Nat.le_of_eq hg.symm)) hb)
      have n5_ := aM (kB (kr HO491.out) hb)
      have n6_ := aM (kB (kr HO495.out) hb)
      have n7_ := aM (Kd.N_below (Kd.N_elderB (by (with_reducible repeat (first | apply Kd.N_alloc | apply Kd.N_drewN | apply Kd.N_drew)); exact HO498.out) gb502 (Nat.le_of_eq hg.symm)) hb)
      have n8_ := aM (kB (kr HO501.out) hb)
      have n9_ := aM (bB (g := gb470) (o := .cells #[.slice (some ad482) t459.length co8, .slice Ao10 t462.length co10, .slice Ao11 t465.length co11] 73 (0, 0)) (bk BK470.out) hb)
      have n10_ := aM (bS (bl HB.out) hb)
      have n11_ := aM (hbox)
      have n12_ := aM ((by rw [hg]; exact (below_size (bl HB.out)) : w.heap.size ≤ gb502))
      have n13_ := aM ((by rw [hg]; exact (below_size (bl HB.out)) : w.heap.size ≤ gb502))
      have n14_ := aM ((by rw [hg]; exact Nat.ne_of_lt (blk_lt (g := gb470) (o := .cells #[.slice (some ad482) t459.length co8, .slice Ao10 t462.length co10, .slice Ao11 t465.length co11] 73 (0, 0)) (bk BK470.out)) : gb470 ≠ gb502))
      have n15_ := aM ((by rw [hg]; exact Nat.ne_of_gt (blk_lt (g := gb470) (o := .cells #[.slice (some ad482) t459.length co8, .slice Ao10 t462.length co10, .slice Ao11 t465.length co11] 73 (0, 0)) (bk BK470.out)) : gb502 ≠ gb470))
      clear HO_471000 HO_471001
      clear HO_471002 HO485
      clear HO488 HO491
      clear HO495 HO498
      clear HO501 BK470 HB
      have HO_471000 := n0_
      have HO_471001 := n1_
      have HO_471002 := n2_
      have HO485 := n3_
      have HO488 := n4_
      have HO491 := n5_
      have HO495 := n6_
      have HO498 := n7_
      have HO501 := n8_
      have BK470 := n9_
      have HB := n10_
      have BK502 := n11_
      have GW502 := n12_
      have GE502 := n13_
      have NB470_502 := n14_
      have NB502_470 := n15_
      clear n0_ n1_ n2_ n3_ n4_ n5_ n6_ n7_ n8_ n9_ n10_ n11_ n12_ n13_ n14_ n15_
      clear hb hbox hg
      refine hK.out _ _ ⟨cI BK470.out 0, cI BK470.out 1, cI BK470.out 2, HS3_, HS4_⟩ (fun hHeld => ?_)
      clear hK K
      refine norm_ (a' := ?_) ?_ ?_
      rotate_left
      ·show Act.put _ (some 6) _ = _
       simp only [Act.put, sA, sZ, sS, i64_w, i32_w]
       rfl
      exact norm_ (by simp only [putAll, Act.put, sA, sZ, sS]) (hCont (.slice Ao43 t483.length co43, .slice Ao44 t486.length co44, .slice Ao45 t489.length co45, v494, v497, v500, gb502) _ ⟨hHeld, (kr (Kd.R_mono HO485.out (fun _ hk => ⟨hk.2, hk.1.2⟩))), (by (with_reducible repeat (first | apply Kd.N_alloc | apply Kd.N_drewN | apply Kd.N_drew)); exact Kd.N_mono HO488.out (fun _ hk => ⟨hk.1.1.1.1.1, ⟨hk.1.1.1.1.2.1, ⟨hk.1.1.1.2, ⟨hk.1.1.2, ⟨hk.1.2, ⟨hk.1.1.1.1.2.2.1, ⟨hk.1.1.1.1.2.2.2.1, ⟨hk.1.1.1.1.2.2.2.2.1, ⟨hk.1.1.1.1.2.2.2.2.2, hk.2⟩⟩⟩⟩⟩⟩⟩⟩⟩)), (kr (Kd.R_mono HO491.out (fun _ hk => ⟨hk.2, hk.1.2⟩))), (kr (Kd.R_mono HO495.out (fun _ hk => ⟨hk.2, hk.1.2⟩))), (by (with_reducible repeat (first | apply Kd.N_alloc | apply Kd.N_drewN | apply Kd.N_drew)); exact Kd.N_mono HO498.out (fun _ hk => ⟨hk.1.2.2.2.2.2.1, ⟨hk.1.2.2.2.2.2.2.1, ⟨hk.1.2.2.2.2.2.2.2.1, ⟨hk.1.1, ⟨hk.1.2.1, ⟨hk.1.2.2.1, ⟨hk.1.2.2.2.1, ⟨hk.1.2.2.2.2.1, ⟨hk.1.2.2.2.2.2.2.2.2, hk.2⟩⟩⟩⟩⟩⟩⟩⟩⟩)), (kr (Kd.R_mono HO501.out (fun _ hk => ⟨hk.2, hk.1.2⟩))), (kr (Kd.R_mono HO_471000.out (fun _ hk => ⟨hk.1.2, hk.2⟩))), (by (with_reducible repeat (first | apply Kd.N_alloc | apply Kd.N_drewN | apply Kd.N_drew)); exact Kd.N_mono HO_471001.out (fun _ hk => ⟨hk.1.1.1.1.1.1.2, ⟨hk.1.1.1.1.1.2, ⟨hk.1.1.1.1.2, ⟨hk.1.1.1.2, ⟨hk.1.1.2, ⟨hk.1.2, ⟨hk.1.1.1.1.1.1.1.1, ⟨hk.1.1.1.1.1.1.1.2.1, ⟨hk.1.1.1.1.1.1.1.2.2, hk.2⟩⟩⟩⟩⟩⟩⟩⟩⟩)), (kr (Kd.R_mono HO_471002.out (fun _ hk => ⟨hk.1.2, hk.2⟩))), (bk BK470.out), (bk BK502.out), GW502.out, GE502.out, NB470_502.out, NB502_470.out, (bl HB.out)⟩)
     ·skip
      refine box_step ?hg (N := 6) ?hd (cs := #[.slice none 0 0, .slice none 0 0, .slice none 0 0]) (t := 73) ?hr ?_; (case hd => rfl); (case hg => rfl); (case hr => first | (go_simp; done) | (go_simp; rfl))
      intro gb502 hg w43 hbox hb
      have HS3_ := (hb.cell (World.block_lt_of_cell? _ _ (hHeld.2.2.2.1))).trans (hHeld.2.2.2.1)
      have HS4_ := (hb.cell (World.block_lt_of_cell? _ _ (hHeld.2.2.2.2))).trans (hHeld.2.2.2.2)
      have n0_ := aM (kB (kr HO_471000.out) hb)
      have n1_ := aM (Kd.N_below (Kd.N_elderB (by (with_reducible repeat (first | apply Kd.N_alloc | apply Kd.N_drewN | apply Kd.N_drew)); exact HO_471001.out) gb502 (Nat.le_of_eq hg.symm)) hb)
      have n2_ := aM (kB (kr HO_471002.out) hb)
      have n3_ := aM (kB (kr HO485.out) hb)
      have n4_ := aM (Kd.N_below (Kd.N_elderB (by (with_reducible repeat (first | apply Kd.N_alloc | apply Kd.N_drewN | apply Kd.N_drew)); exact HO488.out) gb502 (Nat.le_of_eq hg.symm)) hb)
      have n5_ := aM (kB (kr HO491.out) hb)
      have n6_ := aM (bB (g := gb470) (o := .cells #[.slice (some ad482) t459.length co8, .slice Ao10 t462.length co10, .slice Ao11 t465.length co11] 73 (0, 0)) (bk BK470.out) hb)
      have n7_ := aM (bS (bl HB.out) hb)
      have n8_ := aM (hbox)
      have n9_ := aM ((by rw [hg]; exact (below_size (bl HB.out)) : w.heap.size ≤ gb502))
      have n10_ := aM ((by rw [hg]; exact (below_size (bl HB.out)) : w.heap.size ≤ gb502))
      have n11_ := aM ((by rw [hg]; exact Nat.ne_of_lt (blk_lt (g := gb470) (o := .cells #[.slice (some ad482) t459.length co8, .slice Ao10 t462.length co10, .slice Ao11 t465.length co11] 73 (0, 0)) (bk BK470.out)) : gb470 ≠ gb502))
      have n12_ := aM ((by rw [hg]; exact Nat.ne_of_gt (blk_lt (g := gb470) (o := .cells #[.slice (some ad482) t459.length co8, .slice Ao10 t462.length co10, .slice Ao11 t465.length co11] 73 (0, 0)) (bk BK470.out)) : gb502 ≠ gb470))
      clear HO_471000 HO_471001
      clear HO_471002 HO485
      clear HO488 HO491
      clear BK470 HB
      have HO_471000 := n0_
      have HO_471001 := n1_
      have HO_471002 := n2_
      have HO485 := n3_
      have HO488 := n4_
      have HO491 := n5_
      have BK470 := n6_
      have HB := n7_
      have BK502 := n8_
      have GW502 := n9_
      have GE502 := n10_
      have NB470_502 := n11_
      have NB502_470 := n12_
      clear n0_ n1_ n2_ n3_ n4_ n5_ n6_ n7_ n8_ n9_ n10_ n11_ n12_
      clear hb hbox hg
      obtain ⟨Ao44, co44, eo44⟩ := Kd.R_slice HO485.out
      (first | subst eo44 | (injection eo44 with f1_ f2_ f3_; have f4_ := f1_.symm; have f5_ := f3_.symm; clear f1_ f2_ f3_; subst f4_; subst f5_))
      obtain ⟨Ao45, co45, eo45⟩ := Kd.N_slice HO488.out
      (first | subst eo45 | (injection eo45 with f1_ f2_ f3_; have f4_ := f1_.symm; have f5_ := f3_.symm; clear f1_ f2_ f3_; subst f4_; subst f5_))
      obtain ⟨Ao46, co46, eo46⟩ := Kd.R_slice HO491.out
      (first | subst eo46 | (injection eo46 with f1_ f2_ f3_; have f4_ := f1_.symm; have f5_ := f3_.symm; clear f1_ f2_ f3_; subst f4_; subst f5_))
      refine hK.out _ _ ⟨cI BK470.out 0, cI BK470.out 1, cI BK470.out 2, HS3_, HS4_⟩ (fun hHeld => ?_)
      clear hK K
      refine norm_ (a' := ?_) ?_ ?_
      rotate_left
      ·show Act.put _ (some 6) _ = _
       simp only [Act.put, sA, sZ, sS, i64_w, i32_w]
       rfl
      refine one_ (i := 15) (N := some 50) #[Y,Y,Y,Y,Y,Y,Y,Y,Y,Y,Y,Y,Y,Y,Y,Y,Y,U] rfl rfl (one_of HT_.out (by kernel_rfl)) (by decide) (fun K hK => ?_)
      refine goes_ Try.func56 (by kernel_rfl) rfl #[.agg #[.slice Ao44 t483.length co44, .slice Ao45 t486.length co45, .slice Ao46 t489.length co46], .int .i64 t468, .bool (rdOf false t459 t468)] (by rfl) rfl rfl xR ?_
      with_reducible refine (impl_Gate.calls kj4 _ _ t483 _ _ t486 _ _ t489 t468 (rdOf false t459 t468) t493 t496 t499 _ ?side1 ?side2 ?side3 ?side4 ?side5 ?side6 A34.out).mono ?_
      (case side1 => repeat (first | exact (Kd.R_reads' HO485.out).2.2 | (with_reducible refine Kd.C_alloc ?_ _) | (with_reducible refine Kd.C_drewN ?_ _) | (with_reducible refine Kd.C_drew ?_)))
      (case side2 => exact (Kd.R_reads' HO485.out).2.1)
      (case side3 => repeat (first | exact (Kd.N_reads' HO488.out).2.2 | (with_reducible refine Kd.C_alloc ?_ _) | (with_reducible refine Kd.C_drewN ?_ _) | (with_reducible refine Kd.C_drew ?_)))
      (case side4 => exact (Kd.N_reads' HO488.out).2.1)
      (case side5 => repeat (first | exact (Kd.R_reads' HO491.out).2.2 | (with_reducible refine Kd.C_alloc ?_ _) | (with_reducible refine Kd.C_drewN ?_ _) | (with_reducible refine Kd.C_drew ?_)))
      (case side6 => exact (Kd.R_reads' HO491.out).2.1)
      rintro e w47 ⟨v494, v497, v500, rfl, ho0, ho1, ho2, hb⟩
      have HS3_ := (hb.cell (World.block_lt_of_cell? _ _ (hHeld.2.2.2.1))).trans (hHeld.2.2.2.1)
      have HS4_ := (hb.cell (World.block_lt_of_cell? _ _ (hHeld.2.2.2.2))).trans (hHeld.2.2.2.2)
      refine ⟨_, rfl, ?_⟩
      have n0_ := aM (Kd.R_elder' (kr HO_471000.out) (Kd.R_base ho0) hb)
      have n1_ := aM (Kd.N_mono (Kd.N_told (Kd.N_told (Kd.N_told (Kd.N_old (by (with_reducible repeat (first | apply Kd.N_alloc | apply Kd.N_drewN | apply Kd.N_drew)); exact HO_471001.out) hb) (Kd.R_base ho0)) (Kd.S_base ho1)) (Kd.R_base ho2)) (fun _ h_ => h_.1))
      have n2_ := aM (Kd.R_elder' (kr HO_471002.out) (Kd.R_base ho2) hb)
      have n3_ := aM (Kd.R_elder' (kr HO485.out) (Kd.R_base ho0) hb)
      have n4_ := aM (Kd.N_mono (Kd.N_told (Kd.N_told (Kd.N_told (Kd.N_old (by (with_reducible repeat (first | apply Kd.N_alloc | apply Kd.N_drewN | apply Kd.N_drew)); exact HO488.out) hb) (Kd.R_base ho0)) (Kd.S_base ho1)) (Kd.R_base ho2)) (fun _ h_ => h_.1))
      have n5_ := aM (Kd.R_elder' (kr HO491.out) (Kd.R_base ho2) hb)
      have n6_ := aM (Kd.R_lower (Kd.R_new' (Kd.R_new' ho0 (Kd.R_lt (kr HO_471000.out))) (Kd.R_lt (kr HO485.out))) (below_size (bl HB.out)))
      have n7_ := aM (Kd.N_lower (Kd.N_mono (ok' := fun k_ => some k_ ≠ (v494 : Value).ownBlock ∧ some k_ ≠ (v500 : Value).ownBlock ∧ some k_ ≠ (.slice (some ad482) t459.length co8 : Value).ownBlock ∧ some k_ ≠ (.slice Ao10 t462.length co10 : Value).ownBlock ∧ some k_ ≠ (.slice Ao11 t465.length co11 : Value).ownBlock ∧ some k_ ≠ (.slice Ao44 t483.length co44 : Value).ownBlock ∧ some k_ ≠ (.slice Ao45 t486.length co45 : Value).ownBlock ∧ some k_ ≠ (.slice Ao46 t489.length co46 : Value).ownBlock ∧ k_ ≠ gb470 ∧ k_ ≠ gb502) (Kd.S_N (Kd.S_bound (Kd.S_apart' (Kd.S_apart' ho1 (Kd.R_typed ho0) (by decide)) (Kd.R_typed ho2) (by decide)))) (fun k_ hk_ => ⟨hk_.1.1.2, hk_.1.2, (Kd.fresh' (Kd.R_lt (kr HO_471000.out)) k_ hk_.2.1), (Kd.fresh' (Kd.N_lt (by (with_reducible repeat (first | apply Kd.N_alloc | apply Kd.N_drewN | apply Kd.N_drew)); exact HO_471001.out)) k_ hk_.2.1), (Kd.fresh' (Kd.R_lt (kr HO_471002.out)) k_ hk_.2.1), (Kd.fresh' (Kd.R_lt (kr HO485.out)) k_ hk_.2.1), (Kd.fresh' (Kd.N_lt (by (with_reducible repeat (first | apply Kd.N_alloc | apply Kd.N_drewN | apply Kd.N_drew)); exact HO488.out)) k_ hk_.2.1), (Kd.fresh' (Kd.R_lt (kr HO491.out)) k_ hk_.2.1), (Kd.freshB (g := gb470) (o := .cells #[.slice (some ad482) t459.length co8, .slice Ao10 t462.length co10, .slice Ao11 t465.length co11] 73 (0, 0)) (bk BK470.out) k_ hk_.2.1), (Kd.freshB (g := gb502) (o := .cells #[.slice none 0 0, .slice none 0 0, .slice none 0 0] 73 (0, 0)) (bk BK502.out) k_ hk_.2.1)⟩)) (below_size (bl HB.out)))
      have n8_ := aM (Kd.R_lower (Kd.R_new' (Kd.R_new' ho2 (Kd.R_lt (kr HO_471002.out))) (Kd.R_lt (kr HO491.out))) (below_size (bl HB.out)))
      have n9_ := aM (bB (g := gb470) (o := .cells #[.slice (some ad482) t459.length co8, .slice Ao10 t462.length co10, .slice Ao11 t465.length co11] 73 (0, 0)) (bk BK470.out) hb)
      have n10_ := aM (bB (g := gb502) (o := .cells #[.slice none 0 0, .slice none 0 0, .slice none 0 0] 73 (0, 0)) (bk BK502.out) hb)
      have n11_ := aM (bS (bl HB.out) hb)
      clear HO_471000 HO_471001
      clear HO_471002 HO485
      clear HO488 HO491
      clear BK470 BK502 HB
      have HO_471000 := n0_
      have HO_471001 := n1_
      have HO_471002 := n2_
      have HO485 := n3_
      have HO488 := n4_
      have HO491 := n5_
      have HO495 := n6_
      have HO498 := n7_
      have HO501 := n8_
      have BK470 := n9_
      have BK502 := n10_
      have HB := n11_
      clear n0_ n1_ n2_ n3_ n4_ n5_ n6_ n7_ n8_ n9_ n10_ n11_
      (try clear hb)
      (try clear hb2)
      (try clear hk)
      (try clear hi)
      (try clear ho0)
      (try clear ho1)
      (try clear ho2)
      refine hK.out _ _ ⟨cI BK470.out 0, cI BK470.out 1, cI BK470.out 2, HS3_, HS4_⟩ (fun hHeld => ?_)
      clear hK K
      refine norm_ (a' := ?_) ?_ ?_
      rotate_left
      ·show Act.put _ (some 50) _ = _
       simp only [Act.put, sA, sZ, sS, i64_w, i32_w]
       rfl
      exact norm_ (by simp only [putAll, Act.put, sA, sZ, sS]) (hCont (.slice Ao44 t483.length co44, .slice Ao45 t486.length co45, .slice Ao46 t489.length co46, v494, v497, v500, gb502) _ ⟨hHeld, (kr (Kd.R_mono HO485.out (fun _ hk => ⟨hk.2, hk.1.2⟩))), (by (with_reducible repeat (first | apply Kd.N_alloc | apply Kd.N_drewN | apply Kd.N_drew)); exact Kd.N_mono HO488.out (fun _ hk => ⟨hk.1.1.1.1.1, ⟨hk.1.1.1.1.2.1, ⟨hk.1.1.2, ⟨hk.1.2, ⟨hk.2, ⟨hk.1.1.1.1.2.2.1, ⟨hk.1.1.1.1.2.2.2.1, ⟨hk.1.1.1.1.2.2.2.2.1, ⟨hk.1.1.1.1.2.2.2.2.2, hk.1.1.1.2⟩⟩⟩⟩⟩⟩⟩⟩⟩)), (kr (Kd.R_mono HO491.out (fun _ hk => ⟨hk.2, hk.1.2⟩))), (kr (Kd.R_mono HO495.out (fun _ hk => ⟨hk.2, hk.1.2⟩))), (by (with_reducible repeat (first | apply Kd.N_alloc | apply Kd.N_drewN | apply Kd.N_drew)); exact Kd.N_mono HO498.out (fun _ hk => ⟨hk.2.2.2.2.2.1, ⟨hk.2.2.2.2.2.2.1, ⟨hk.2.2.2.2.2.2.2.1, ⟨hk.1, ⟨hk.2.1, ⟨hk.2.2.1, ⟨hk.2.2.2.1, ⟨hk.2.2.2.2.1, ⟨hk.2.2.2.2.2.2.2.2.1, hk.2.2.2.2.2.2.2.2.2⟩⟩⟩⟩⟩⟩⟩⟩⟩)), (kr (Kd.R_mono HO501.out (fun _ hk => ⟨hk.2, hk.1.2⟩))), (kr (Kd.R_mono HO_471000.out (fun _ hk => ⟨hk.1.2, hk.2⟩))), (by (with_reducible repeat (first | apply Kd.N_alloc | apply Kd.N_drewN | apply Kd.N_drew)); exact Kd.N_mono HO_471001.out (fun _ hk => ⟨hk.1.1.1.1.1.1.2, ⟨hk.1.1.1.1.1.2, ⟨hk.1.1.1.1.2, ⟨hk.1.1.2, ⟨hk.1.2, ⟨hk.2, ⟨hk.1.1.1.1.1.1.1.1, ⟨hk.1.1.1.1.1.1.1.2.1, ⟨hk.1.1.1.1.1.1.1.2.2, hk.1.1.1.2⟩⟩⟩⟩⟩⟩⟩⟩⟩)), (kr (Kd.R_mono HO_471002.out (fun _ hk => ⟨hk.1.2, hk.2⟩))), (bk BK470.out), (bk BK502.out), GW502.out, GE502.out, NB470_502.out, NB502_470.out, (bl HB.out)⟩)
    ·skip
     refine box_step ?hg (N := 6) ?hd (cs := #[.slice none 0 0, .slice none 0 0, .slice none 0 0]) (t := 73) ?hr ?_; (case hd => rfl); (case hg => rfl); (case hr => first | (go_simp; done) | (go_simp; rfl))
     intro gb502 hg w42 hbox hb
     have HS3_ := (hb.cell (World.block_lt_of_cell? _ _ (hHeld.2.2.2.1))).trans (hHeld.2.2.2.1)
     have HS4_ := (hb.cell (World.block_lt_of_cell? _ _ (hHeld.2.2.2.2))).trans (hHeld.2.2.2.2)
     have n0_ := aM (kB (kr HO_471000.out) hb)
     have n1_ := aM (Kd.N_below (Kd.N_elderB (by (with_reducible repeat (first | apply Kd.N_alloc | apply Kd.N_drewN | apply Kd.N_drew)); exact HO_471001.out) gb502 (Nat.le_of_eq hg.symm)) hb)
     have n2_ := aM (kB (kr HO_471002.out) hb)
     have n3_ := aM (bB (g := gb470) (o := .cells #[.slice (some ad482) t459.length co8, .slice Ao10 t462.length co10, .slice Ao11 t465.length co11] 73 (0, 0)) (bk BK470.out) hb)
     have n4_ := aM (bS (bl HB.out) hb)
     have n5_ := aM (hbox)
     have n6_ := aM ((by rw [hg]; exact (below_size (bl HB.out)) : w.heap.size ≤ gb502))
     have n7_ := aM ((by rw [hg]; exact (below_size (bl HB.out)) : w.heap.size ≤ gb502))
     have n8_ := aM ((by rw [hg]; exact Nat.ne_of_lt (blk_lt (g := gb470) (o := .cells #[.slice (some ad482) t459.length co8, .slice Ao10 t462.length co10, .slice Ao11 t465.length co11] 73 (0, 0)) (bk BK470.out)) : gb470 ≠ gb502))
     have n9_ := aM ((by rw [hg]; exact Nat.ne_of_gt (blk_lt (g := gb470) (o := .cells #[.slice (some ad482) t459.length co8, .slice Ao10 t462.length co10, .slice Ao11 t465.length co11] 73 (0, 0)) (bk BK470.out)) : gb502 ≠ gb470))
     clear HO_471000 HO_471001
     clear HO_471002 BK470 HB
     have HO_471000 := n0_
     have HO_471001 := n1_
     have HO_471002 := n2_
     have BK470 := n3_
     have HB := n4_
     have BK502 := n5_
     have GW502 := n6_
     have GE502 := n7_
     have NB470_502 := n8_
     have NB502_470 := n9_
     clear n0_ n1_ n2_ n3_ n4_ n5_ n6_ n7_ n8_ n9_
     clear hb hbox hg
     refine hK.out _ _ ⟨cI BK470.out 0, cI BK470.out 1, cI BK470.out 2, HS3_, HS4_⟩ (fun hHeld => ?_)
     clear hK K
     refine norm_ (a' := ?_) ?_ ?_
     rotate_left
     ·show Act.put _ (some 6) _ = _
      simp only [Act.put, sA, sZ, sS, i64_w, i32_w]
      rfl
     refine one_ (i := 8) (N := some 43) #[Y,Y,Y,Y,Y,Y,Y,Y,Y,Y,Y,Y,Y,Y,Y,U,Y,U] rfl rfl (one_of HT_.out (by kernel_rfl)) (by decide) (fun K hK => ?_)
     refine goes_ Try.func56 (by kernel_rfl) rfl #[.agg #[.slice (some ad482) t459.length co8, .slice Ao10 t462.length co10, .slice Ao11 t465.length co11], .int .i64 t468, .bool (!(rdOf false t459 t468))] (by rfl) rfl rfl xR ?_
     with_reducible refine (impl_Gate.calls kj4 _ _ t459 _ _ t462 _ _ t465 t468 (!(rdOf false t459 t468)) t483 t486 t489 _ ?side1 ?side2 ?side3 ?side4 ?side5 ?side6 A33.out).mono ?_
     (case side1 => repeat (first | exact (Kd.R_reads' HO_471000.out).2.2 | (with_reducible refine Kd.C_alloc ?_ _) | (with_reducible refine Kd.C_drewN ?_ _) | (with_reducible refine Kd.C_drew ?_)))
     (case side2 => exact (Kd.R_reads' HO_471000.out).2.1)
     (case side3 => repeat (first | exact (Kd.N_reads' HO_471001.out).2.2 | (with_reducible refine Kd.C_alloc ?_ _) | (with_reducible refine Kd.C_drewN ?_ _) | (with_reducible refine Kd.C_drew ?_)))
     (case side4 => exact (Kd.N_reads' HO_471001.out).2.1)
     (case side5 => repeat (first | exact (Kd.R_reads' HO_471002.out).2.2 | (with_reducible refine Kd.C_alloc ?_ _) | (with_reducible refine Kd.C_drewN ?_ _) | (with_reducible refine Kd.C_drew ?_)))
     (case side6 => exact (Kd.R_reads' HO_471002.out).2.1)
     rintro e w43 ⟨v484, v487, v490, rfl, ho0, ho1, ho2, hb⟩
     have HS3_ := (hb.cell (World.block_lt_of_cell? _ _ (hHeld.2.2.2.1))).trans (hHeld.2.2.2.1)
     have HS4_ := (hb.cell (World.block_lt_of_cell? _ _ (hHeld.2.2.2.2))).trans (hHeld.2.2.2.2)
     refine ⟨_, rfl, ?_⟩
     have n0_ := aM (Kd.R_elder' (kr HO_471000.out) (Kd.R_base ho0) hb)
     have n1_ := aM (Kd.N_mono (Kd.N_told (Kd.N_told (Kd.N_told (Kd.N_old (by (with_reducible repeat (first | apply Kd.N_alloc | apply Kd.N_drewN | apply Kd.N_drew)); exact HO_471001.out) hb) (Kd.R_base ho0)) (Kd.S_base ho1)) (Kd.R_base ho2)) (fun _ h_ => h_.1))
     have n2_ := aM (Kd.R_elder' (kr HO_471002.out) (Kd.R_base ho2) hb)
     have n3_ := aM (Kd.R_lower (Kd.R_new' ho0 (Kd.R_lt (kr HO_471000.out))) (below_size (bl HB.out)))
     have n4_ := aM (Kd.N_lower (Kd.N_mono (ok' := fun k_ => some k_ ≠ (v484 : Value).ownBlock ∧ some k_ ≠ (v490 : Value).ownBlock ∧ some k_ ≠ (.slice (some ad482) t459.length co8 : Value).ownBlock ∧ some k_ ≠ (.slice Ao10 t462.length co10 : Value).ownBlock ∧ some k_ ≠ (.slice Ao11 t465.length co11 : Value).ownBlock ∧ k_ ≠ gb470 ∧ k_ ≠ gb502) (Kd.S_N (Kd.S_bound (Kd.S_apart' (Kd.S_apart' ho1 (Kd.R_typed ho0) (by decide)) (Kd.R_typed ho2) (by decide)))) (fun k_ hk_ => ⟨hk_.1.1.2, hk_.1.2, (Kd.fresh' (Kd.R_lt (kr HO_471000.out)) k_ hk_.2.1), (Kd.fresh' (Kd.N_lt (by (with_reducible repeat (first | apply Kd.N_alloc | apply Kd.N_drewN | apply Kd.N_drew)); exact HO_471001.out)) k_ hk_.2.1), (Kd.fresh' (Kd.R_lt (kr HO_471002.out)) k_ hk_.2.1), (Kd.freshB (g := gb470) (o := .cells #[.slice (some ad482) t459.length co8, .slice Ao10 t462.length co10, .slice Ao11 t465.length co11] 73 (0, 0)) (bk BK470.out) k_ hk_.2.1), (Kd.freshB (g := gb502) (o := .cells #[.slice none 0 0, .slice none 0 0, .slice none 0 0] 73 (0, 0)) (bk BK502.out) k_ hk_.2.1)⟩)) (below_size (bl HB.out)))
     have n5_ := aM (Kd.R_lower (Kd.R_new' ho2 (Kd.R_lt (kr HO_471002.out))) (below_size (bl HB.out)))
     have n6_ := aM (bB (g := gb470) (o := .cells #[.slice (some ad482) t459.length co8, .slice Ao10 t462.length co10, .slice Ao11 t465.length co11] 73 (0, 0)) (bk BK470.out) hb)
     have n7_ := aM (bB (g := gb502) (o := .cells #[.slice none 0 0, .slice none 0 0, .slice none 0 0] 73 (0, 0)) (bk BK502.out) hb)
     have n8_ := aM (bS (bl HB.out) hb)
     clear HO_471000 HO_471001
     clear HO_471002 BK470
     clear BK502 HB
     have HO_471000 := n0_
     have HO_471001 := n1_
     have HO_471002 := n2_
     have HO485 := n3_
     have HO488 := n4_
     have HO491 := n5_
     have BK470 := n6_
     have BK502 := n7_
     have HB := n8_
     clear n0_ n1_ n2_ n3_ n4_ n5_ n6_ n7_ n8_
     (try clear hb)
     (try clear hb2)
     (try clear hk)
     (try clear hi)
     (try clear ho0)
     (try clear ho1)
     (try clear ho2)
     obtain ⟨Ao44, co44, eo44⟩ := Kd.R_slice HO485.out
     (first | subst eo44 | (injection eo44 with f1_ f2_ f3_; have f4_ := f1_.symm; have f5_ := f3_.symm; clear f1_ f2_ f3_; subst f4_; subst f5_))
     obtain ⟨Ao45, co45, eo45⟩ := Kd.N_slice HO488.out
     (first | subst eo45 | (injection eo45 with f1_ f2_ f3_; have f4_ := f1_.symm; have f5_ := f3_.symm; clear f1_ f2_ f3_; subst f4_; subst f5_))
     obtain ⟨Ao46, co46, eo46⟩ := Kd.R_slice HO491.out
     (first | subst eo46 | (injection eo46 with f1_ f2_ f3_; have f4_ := f1_.symm; have f5_ := f3_.symm; clear f1_ f2_ f3_; subst f4_; subst f5_))
     refine hK.out _ _ ⟨cI BK470.out 0, cI BK470.out 1, cI BK470.out 2, HS3_, HS4_⟩ (fun hHeld => ?_)
     clear hK K
     refine norm_ (a' := ?_) ?_ ?_
     rotate_left
     ·show Act.put _ (some 43) _ = _
      simp only [Act.put, sA, sZ, sS, i64_w, i32_w]
      rfl
     refine one_ (i := 15) (N := some 50) #[Y,Y,Y,Y,Y,Y,Y,Y,Y,Y,Y,Y,Y,Y,Y,Y,Y,U] rfl rfl (one_of HT_.out (by kernel_rfl)) (by decide) (fun K hK => ?_)
     refine goes_ Try.func56 (by kernel_rfl) rfl #[.agg #[.slice Ao44 t483.length co44, .slice Ao45 t486.length co45, .slice Ao46 t489.length co46], .int .i64 t468, .bool (rdOf false t459 t468)] (by rfl) rfl rfl xR ?_
     with_reducible refine (impl_Gate.calls kj4 _ _ t483 _ _ t486 _ _ t489 t468 (rdOf false t459 t468) t493 t496 t499 _ ?side1 ?side2 ?side3 ?side4 ?side5 ?side6 A34.out).mono ?_
     (case side1 => repeat (first | exact (Kd.R_reads' HO485.out).2.2 | (with_reducible refine Kd.C_alloc ?_ _) | (with_reducible refine Kd.C_drewN ?_ _) | (with_reducible refine Kd.C_drew ?_)))
     (case side2 => exact (Kd.R_reads' HO485.out).2.1)
     (case side3 => repeat (first | exact (Kd.N_reads' HO488.out).2.2 | (with_reducible refine Kd.C_alloc ?_ _) | (with_reducible refine Kd.C_drewN ?_ _) | (with_reducible refine Kd.C_drew ?_)))
     (case side4 => exact (Kd.N_reads' HO488.out).2.1)
     (case side5 => repeat (first | exact (Kd.R_reads' HO491.out).2.2 | (with_reducible refine Kd.C_alloc ?_ _) | (with_reducible refine Kd.C_drewN ?_ _) | (with_reducible refine Kd.C_drew ?_)))
     (case side6 => exact (Kd.R_reads' HO491.out).2.1)
     rintro e w47 ⟨v494, v497, v500, rfl, ho0, ho1, ho2, hb⟩
     have HS3_ := (hb.cell (World.block_lt_of_cell? _ _ (hHeld.2.2.2.1))).trans (hHeld.2.2.2.1)
     have HS4_ := (hb.cell (World.block_lt_of_cell? _ _ (hHeld.2.2.2.2))).trans (hHeld.2.2.2.2)
     refine ⟨_, rfl, ?_⟩
     have n0_ := aM (Kd.R_elder' (kr HO_471000.out) (Kd.R_base ho0) hb)
     have n1_ := aM (Kd.N_mono (Kd.N_told (Kd.N_told (Kd.N_told (Kd.N_old (by (with_reducible repeat (first | apply Kd.N_alloc | apply Kd.N_drewN | apply Kd.N_drew)); exact HO_471001.out) hb) (Kd.R_base ho0)) (Kd.S_base ho1)) (Kd.R_base ho2)) (fun _ h_ => h_.1))
     have n2_ := aM (Kd.R_elder' (kr HO_471002.out) (Kd.R_base ho2) hb)
     have n3_ := aM (Kd.R_elder' (kr HO485.out) (Kd.R_base ho0) hb)
     have n4_ := aM (Kd.N_mono (Kd.N_told (Kd.N_told (Kd.N_told (Kd.N_old (by (with_reducible repeat (first | apply Kd.N_alloc | apply Kd.N_drewN | apply Kd.N_drew)); exact HO488.out) hb) (Kd.R_base ho0)) (Kd.S_base ho1)) (Kd.R_base ho2)) (fun _ h_ => h_.1))
     have n5_ := aM (Kd.R_elder' (kr HO491.out) (Kd.R_base ho2) hb)
     have n6_ := aM (Kd.R_lower (Kd.R_new' (Kd.R_new' ho0 (Kd.R_lt (kr HO_471000.out))) (Kd.R_lt (kr HO485.out))) (below_size (bl HB.out)))
     have n7_ := aM (Kd.N_lower (Kd.N_mono (ok' := fun k_ => some k_ ≠ (v494 : Value).ownBlock ∧ some k_ ≠ (v500 : Value).ownBlock ∧ some k_ ≠ (.slice (some ad482) t459.length co8 : Value).ownBlock ∧ some k_ ≠ (.slice Ao10 t462.length co10 : Value).ownBlock ∧ some k_ ≠ (.slice Ao11 t465.length co11 : Value).ownBlock ∧ some k_ ≠ (.slice Ao44 t483.length co44 : Value).ownBlock ∧ some k_ ≠ (.slice Ao45 t486.length co45 : Value).ownBlock ∧ some k_ ≠ (.slice Ao46 t489.length co46 : Value).ownBlock ∧ k_ ≠ gb470 ∧ k_ ≠ gb502) (Kd.S_N (Kd.S_bound (Kd.S_apart' (Kd.S_apart' ho1 (Kd.R_typed ho0) (by decide)) (Kd.R_typed ho2) (by decide)))) (fun k_ hk_ => ⟨hk_.1.1.2, hk_.1.2, (Kd.fresh' (Kd.R_lt (kr HO_471000.out)) k_ hk_.2.1), (Kd.fresh' (Kd.N_lt (by (with_reducible repeat (first | apply Kd.N_alloc | apply Kd.N_drewN | apply Kd.N_drew)); exact HO_471001.out)) k_ hk_.2.1), (Kd.fresh' (Kd.R_lt (kr HO_471002.out)) k_ hk_.2.1), (Kd.fresh' (Kd.R_lt (kr HO485.out)) k_ hk_.2.1), (Kd.fresh' (Kd.N_lt (by (with_reducible repeat (first | apply Kd.N_alloc | apply Kd.N_drewN | apply Kd.N_drew)); exact HO488.out)) k_ hk_.2.1), (Kd.fresh' (Kd.R_lt (kr HO491.out)) k_ hk_.2.1), (Kd.freshB (g := gb470) (o := .cells #[.slice (some ad482) t459.length co8, .slice Ao10 t462.length co10, .slice Ao11 t465.length co11] 73 (0, 0)) (bk BK470.out) k_ hk_.2.1), (Kd.freshB (g := gb502) (o := .cells #[.slice none 0 0, .slice none 0 0, .slice none 0 0] 73 (0, 0)) (bk BK502.out) k_ hk_.2.1)⟩)) (below_size (bl HB.out)))
     have n8_ := aM (Kd.R_lower (Kd.R_new' (Kd.R_new' ho2 (Kd.R_lt (kr HO_471002.out))) (Kd.R_lt (kr HO491.out))) (below_size (bl HB.out)))
     have n9_ := aM (bB (g := gb470) (o := .cells #[.slice (some ad482) t459.length co8, .slice Ao10 t462.length co10, .slice Ao11 t465.length co11] 73 (0, 0)) (bk BK470.out) hb)
     have n10_ := aM (bB (g := gb502) (o := .cells #[.slice none 0 0, .slice none 0 0, .slice none 0 0] 73 (0, 0)) (bk BK502.out) hb)
     have n11_ := aM (bS (bl HB.out) hb)
     clear HO_471000 HO_471001
     clear HO_471002 HO485
     clear HO488 HO491
     clear BK470 BK502 HB
     have HO_471000 := n0_
     have HO_471001 := n1_
     have HO_471002 := n2_
     have HO485 := n3_
     have HO488 := n4_
     have HO491 := n5_
     have HO495 := n6_
     have HO498 := n7_
     have HO501 := n8_
     have BK470 := n9_
     have BK502 := n10_
     have HB := n11_
     clear n0_ n1_ n2_ n3_ n4_ n5_ n6_ n7_ n8_ n9_ n10_ n11_
     (try clear hb)
     (try clear hb2)
     (try clear hk)
     (try clear hi)
     (try clear ho0)
     (try clear ho1)
     (try clear ho2)
     refine hK.out _ _ ⟨cI BK470.out 0, cI BK470.out 1, cI BK470.out 2, HS3_, HS4_⟩ (fun hHeld => ?_)
     clear hK K
     refine norm_ (a' := ?_) ?_ ?_
     rotate_left
     ·show Act.put _ (some 50) _ = _
      simp only [Act.put, sA, sZ, sS, i64_w, i32_w]
      rfl
     exact norm_ (by simp only [putAll, Act.put, sA, sZ, sS]) (hCont (.slice Ao44 t483.length co44, .slice Ao45 t486.length co45, .slice Ao46 t489.length co46, v494, v497, v500, gb502) _ ⟨hHeld, (kr (Kd.R_mono HO485.out (fun _ hk => ⟨hk.2, hk.1.2⟩))), (by (with_reducible repeat (first | apply Kd.N_alloc | apply Kd.N_drewN | apply Kd.N_drew)); exact Kd.N_mono HO488.out (fun _ hk => ⟨hk.1.1.1.1, ⟨hk.1.1.1.2.1, ⟨hk.1.1.2, ⟨hk.1.2, ⟨hk.2, ⟨hk.1.1.1.2.2.1, ⟨hk.1.1.1.2.2.2.1, ⟨hk.1.1.1.2.2.2.2.1, ⟨hk.1.1.1.2.2.2.2.2.1, hk.1.1.1.2.2.2.2.2.2⟩⟩⟩⟩⟩⟩⟩⟩⟩)), (kr (Kd.R_mono HO491.out (fun _ hk => ⟨hk.2, hk.1.2⟩))), (kr (Kd.R_mono HO495.out (fun _ hk => ⟨hk.2, hk.1.2⟩))), (by (with_reducible repeat (first | apply Kd.N_alloc | apply Kd.N_drewN | apply Kd.N_drew)); exact Kd.N_mono HO498.out (fun _ hk => ⟨hk.2.2.2.2.2.1, ⟨hk.2.2.2.2.2.2.1, ⟨hk.2.2.2.2.2.2.2.1, ⟨hk.1, ⟨hk.2.1, ⟨hk.2.2.1, ⟨hk.2.2.2.1, ⟨hk.2.2.2.2.1, ⟨hk.2.2.2.2.2.2.2.2.1, hk.2.2.2.2.2.2.2.2.2⟩⟩⟩⟩⟩⟩⟩⟩⟩)), (kr (Kd.R_mono HO501.out (fun _ hk => ⟨hk.2, hk.1.2⟩))), (kr (Kd.R_mono HO_471000.out (fun _ hk => ⟨hk.1.2, hk.2⟩))), (by (with_reducible repeat (first | apply Kd.N_alloc | apply Kd.N_drewN | apply Kd.N_drew)); exact Kd.N_mono HO_471001.out (fun _ hk => ⟨hk.1.1.1.1.1.2, ⟨hk.1.1.1.1.2, ⟨hk.1.1.1.2, ⟨hk.1.1.2, ⟨hk.1.2, ⟨hk.2, ⟨hk.1.1.1.1.1.1.1.1, ⟨hk.1.1.1.1.1.1.1.2.1, ⟨hk.1.1.1.1.1.1.1.2.2, hk.1.1.1.1.1.1.2⟩⟩⟩⟩⟩⟩⟩⟩⟩)), (kr (Kd.R_mono HO_471002.out (fun _ hk => ⟨hk.1.2, hk.2⟩))), (bk BK470.out), (bk BK502.out), GW502.out, GE502.out, NB470_502.out, NB502_470.out, (bl HB.out)⟩)
   rintro ⟨v484, v487, v490, v494, v497, v500, gb502⟩ w48 ⟨hS_, h0_, h1_, h2_, h3_, h4_, h5_, h6_, h7_, h8_, h9_, h10_, h11_, h12_, h13_, h14_, h15_⟩
   have n0_ : Aside0 (Kd.R Kd.bool 4 w48 w.heap.size (fun k_ => some k_ ≠ (v494 : Value).ownBlock ∧ some k_ ≠ (.slice (some ad482) t459.length co8 : Value).ownBlock) v484 t483) := ⟨h0_⟩
   have n1_ : Aside0 (Kd.N k129 129 w48 w.heap.size (fun k_ => some k_ ≠ (v484 : Value).ownBlock ∧ some k_ ≠ (v490 : Value).ownBlock ∧ some k_ ≠ (v494 : Value).ownBlock ∧ some k_ ≠ (v497 : Value).ownBlock ∧ some k_ ≠ (v500 : Value).ownBlock ∧ some k_ ≠ (.slice (some ad482) t459.length co8 : Value).ownBlock ∧ some k_ ≠ (.slice Ao10 t462.length co10 : Value).ownBlock ∧ some k_ ≠ (.slice Ao11 t465.length co11 : Value).ownBlock ∧ k_ ≠ gb470 ∧ k_ ≠ gb502) v487 t486) := ⟨h1_⟩
   have n2_ : Aside0 (Kd.R k40 40 w48 w.heap.size (fun k_ => some k_ ≠ (v500 : Value).ownBlock ∧ some k_ ≠ (.slice Ao11 t465.length co11 : Value).ownBlock) v490 t489) := ⟨h2_⟩
   have n3_ : Aside0 (Kd.R Kd.bool 4 w48 w.heap.size (fun k_ => some k_ ≠ (v484 : Value).ownBlock ∧ some k_ ≠ (.slice (some ad482) t459.length co8 : Value).ownBlock) v494 t493) := ⟨h3_⟩
   have n4_ : Aside0 (Kd.N k129 129 w48 w.heap.size (fun k_ => some k_ ≠ (v484 : Value).ownBlock ∧ some k_ ≠ (v487 : Value).ownBlock ∧ some k_ ≠ (v490 : Value).ownBlock ∧ some k_ ≠ (v494 : Value).ownBlock ∧ some k_ ≠ (v500 : Value).ownBlock ∧ some k_ ≠ (.slice (some ad482) t459.length co8 : Value).ownBlock ∧ some k_ ≠ (.slice Ao10 t462.length co10 : Value).ownBlock ∧ some k_ ≠ (.slice Ao11 t465.length co11 : Value).ownBlock ∧ k_ ≠ gb470 ∧ k_ ≠ gb502) v497 t496) := ⟨h4_⟩
   have n5_ : Aside0 (Kd.R k40 40 w48 w.heap.size (fun k_ => some k_ ≠ (v490 : Value).ownBlock ∧ some k_ ≠ (.slice Ao11 t465.length co11 : Value).ownBlock) v500 t499) := ⟨h5_⟩
   have n6_ : Aside0 (Kd.R Kd.bool 4 w48 w.heap.size (fun k_ => some k_ ≠ (v484 : Value).ownBlock ∧ some k_ ≠ (v494 : Value).ownBlock) (.slice (some ad482) t459.length co8) t459) := ⟨h6_⟩
   have n7_ : Aside0 (Kd.N k129 129 w48 w.heap.size (fun k_ => some k_ ≠ (v484 : Value).ownBlock ∧ some k_ ≠ (v487 : Value).ownBlock ∧ some k_ ≠ (v490 : Value).ownBlock ∧ some k_ ≠ (v494 : Value).ownBlock ∧ some k_ ≠ (v497 : Value).ownBlock ∧ some k_ ≠ (v500 : Value).ownBlock ∧ some k_ ≠ (.slice (some ad482) t459.length co8 : Value).ownBlock ∧ some k_ ≠ (.slice Ao11 t465.length co11 : Value).ownBlock ∧ k_ ≠ gb470 ∧ k_ ≠ gb502) (.slice Ao10 t462.length co10) t462) := ⟨h7_⟩
   have n8_ : Aside0 (Kd.R k40 40 w48 w.heap.size (fun k_ => some k_ ≠ (v490 : Value).ownBlock ∧ some k_ ≠ (v500 : Value).ownBlock) (.slice Ao11 t465.length co11) t465) := ⟨h8_⟩
   have n9_ : Aside0 (w48.heap[gb470]? = some (.cells #[.slice (some ad482) t459.length co8, .slice Ao10 t462.length co10, .slice Ao11 t465.length co11] 73 (0, 0))) := ⟨h9_⟩
   have n10_ : Aside0 (w48.heap[gb502]? = some (.cells #[.slice none 0 0, .slice none 0 0, .slice none 0 0] 73 (0, 0))) := ⟨h10_⟩
   have n11_ : Aside0 (w.heap.size ≤ gb502) := ⟨h11_⟩
   have n12_ : Aside0 (w.heap.size ≤ gb502) := ⟨h12_⟩
   have n13_ : Aside0 (gb470 ≠ gb502) := ⟨h13_⟩
   have n14_ : Aside0 (gb502 ≠ gb470) := ⟨h14_⟩
   have n15_ : Aside0 (Below w.heap.size w w48) := ⟨h15_⟩
   clear HO_471000 HO_471001
   clear HO_471002 BK470 HB
   clear h0_ h1_ h2_ h3_ h4_ h5_ h6_ h7_ h8_ h9_ h10_ h11_ h12_ h13_ h14_ h15_
   have HO485 := n0_
   have HO488 := n1_
   have HO491 := n2_
   have HO495 := n3_
   have HO498 := n4_
   have HO501 := n5_
   have HO_471000 := n6_
   have HO_471001 := n7_
   have HO_471002 := n8_
   have BK470 := n9_
   have BK502 := n10_
   have GW502 := n11_
   have GE502 := n12_
   have NB470_502 := n13_
   have NB502_470 := n14_
   have HB := n15_
   clear n0_ n1_ n2_ n3_ n4_ n5_ n6_ n7_ n8_ n9_ n10_ n11_ n12_ n13_ n14_ n15_
   have hHeld : w48.cell? ⟨gb470, 0, none⟩ = some (.slice (some ad482) t459.length co8) ∧ w48.cell? ⟨gb470, 1, none⟩ = some (.slice Ao10 t462.length co10) ∧ w48.cell? ⟨gb470, 2, none⟩ = some (.slice Ao11 t465.length co11) ∧ w48.cell? (ad482.add (t468).toNat) = some (.bool (rdOf false t459 t468)) ∧ w48.cell? (ad482.add (t468).toNat) = some (.bool (rdOf false t459 t468)) := hS_
   obtain ⟨Ao49, co49, eo49⟩ := Kd.R_slice HO495.out
   (first | subst eo49 | (injection eo49 with f1_ f2_ f3_; have f4_ := f1_.symm; have f5_ := f3_.symm; clear f1_ f2_ f3_; subst f4_; subst f5_))
   obtain ⟨Ao51, co51, eo51⟩ := Kd.N_slice HO498.out
   (first | subst eo51 | (injection eo51 with f1_ f2_ f3_; have f4_ := f1_.symm; have f5_ := f3_.symm; clear f1_ f2_ f3_; subst f4_; subst f5_))
   obtain ⟨Ao53, co53, eo53⟩ := Kd.R_slice HO501.out
   (first | subst eo53 | (injection eo53 with f1_ f2_ f3_; have f4_ := f1_.symm; have f5_ := f3_.symm; clear f1_ f2_ f3_; subst f4_; subst f5_))
   refine norm_ (a' := ?_) ?_ ?_
   rotate_left
   ·simp only [putAll, Act.put, sA, sZ, sS]
    rfl
   refine one_ (i := 17) (N := none) #[Y,Y,Y,Y,Y,Y,Y,Y,Y,Y,Y,Y,Y,Y,Y,Y,Y,Y] rfl rfl (one_of HT_.out (by kernel_rfl)) (by decide) (fun K hK => ?_)
   have hs50 := cI BK502.out 0
   have hfs50 := bF BK502.out 0
   have hns50_0 := NB470_502.out
   have hms50_0 := NB502_470.out
   have hs52 := cI BK502.out 1
   have hfs52 := bF BK502.out 1
   have hns52_0 := NB470_502.out
   have hms52_0 := NB502_470.out
   have hs54 := cI BK502.out 2
   have hfs54 := bF BK502.out 2
   have hns54_0 := NB470_502.out
   have hms54_0 := NB502_470.out
   refine skip_ (w1 := ?_) (by rfl) rfl ?_ ?_
   rotate_left
   ·go_simp
    rfl
   refine hK.out _ _ ⟨((cell_far (p := ⟨gb502, _, none⟩) NB470_502.out _).trans (((cell_far (p := ⟨gb502, _, none⟩) NB470_502.out _).trans (((cell_far (p := ⟨gb502, _, none⟩) NB470_502.out _).trans (hHeld.1)))))), ((cell_far (p := ⟨gb502, _, none⟩) NB470_502.out _).trans (((cell_far (p := ⟨gb502, _, none⟩) NB470_502.out _).trans (((cell_far (p := ⟨gb502, _, none⟩) NB470_502.out _).trans (hHeld.2.1)))))), ((cell_far (p := ⟨gb502, _, none⟩) NB470_502.out _).trans (((cell_far (p := ⟨gb502, _, none⟩) NB470_502.out _).trans (((cell_far (p := ⟨gb502, _, none⟩) NB470_502.out _).trans (hHeld.2.2.1)))))), ((cell_far (p := ⟨gb502, _, none⟩) (by first | exact Kd.own_blk (Kd.R_ne HO_471000.out BK502.out (by decide)) | (rw [add_block]; exact Kd.own_blk (Kd.R_ne HO_471000.out BK502.out (by decide))) | (show (Addr.add _ _).block ≠ _; rw [add_block]; exact Kd.own_blk (Kd.R_ne HO_471000.out BK502.out (by decide))) | (dsimp only; exact Kd.own_blk (Kd.R_ne HO_471000.out BK502.out (by decide)))) _).trans (((cell_far (p := ⟨gb502, _, none⟩) (by first | exact Kd.own_blk (Kd.R_ne HO_471000.out BK502.out (by decide)) | (rw [add_block]; exact Kd.own_blk (Kd.R_ne HO_471000.out BK502.out (by decide))) | (show (Addr.add _ _).block ≠ _; rw [add_block]; exact Kd.own_blk (Kd.R_ne HO_471000.out BK502.out (by decide))) | (dsimp only; exact Kd.own_blk (Kd.R_ne HO_471000.out BK502.out (by decide)))) _).trans (((cell_far (p := ⟨gb502, _, none⟩) (by first | exact Kd.own_blk (Kd.R_ne HO_471000.out BK502.out (by decide)) | (rw [add_block]; exact Kd.own_blk (Kd.R_ne HO_471000.out BK502.out (by decide))) | (show (Addr.add _ _).block ≠ _; rw [add_block]; exact Kd.own_blk (Kd.R_ne HO_471000.out BK502.out (by decide))) | (dsimp only; exact Kd.own_blk (Kd.R_ne HO_471000.out BK502.out (by decide)))) _).trans (hHeld.2.2.2.1)))))), ((cell_far (p := ⟨gb502, _, none⟩) (by first | exact Kd.own_blk (Kd.R_ne HO_471000.out BK502.out (by decide)) | (rw [add_block]; exact Kd.own_blk (Kd.R_ne HO_471000.out BK502.out (by decide))) | (show (Addr.add _ _).block ≠ _; rw [add_block]; exact Kd.own_blk (Kd.R_ne HO_471000.out BK502.out (by decide))) | (dsimp only; exact Kd.own_blk (Kd.R_ne HO_471000.out BK502.out (by decide)))) _).trans (((cell_far (p := ⟨gb502, _, none⟩) (by first | exact Kd.own_blk (Kd.R_ne HO_471000.out BK502.out (by decide)) | (rw [add_block]; exact Kd.own_blk (Kd.R_ne HO_471000.out BK502.out (by decide))) | (show (Addr.add _ _).block ≠ _; rw [add_block]; exact Kd.own_blk (Kd.R_ne HO_471000.out BK502.out (by decide))) | (dsimp only; exact Kd.own_blk (Kd.R_ne HO_471000.out BK502.out (by decide)))) _).trans (((cell_far (p := ⟨gb502, _, none⟩) (by first | exact Kd.own_blk (Kd.R_ne HO_471000.out BK502.out (by decide)) | (rw [add_block]; exact Kd.own_blk (Kd.R_ne HO_471000.out BK502.out (by decide))) | (show (Addr.add _ _).block ≠ _; rw [add_block]; exact Kd.own_blk (Kd.R_ne HO_471000.out BK502.out (by decide))) | (dsimp only; exact Kd.own_blk (Kd.R_ne HO_471000.out BK502.out (by decide)))) _).trans (hHeld.2.2.2.2))))))⟩ (fun hHeld => ?_)
   clear hK K
   refine done_ (done_of HT_.out (by kernel_rfl)) ?_
   try go_wp2
   have n0_ : Aside0 (Kd.R Kd.bool 4 (((w48.setCell ⟨gb502, 0, none⟩ (.slice Ao49 t493.length co49)).setCell ⟨gb502, 1, none⟩ (.slice Ao51 t496.length co51)).setCell ⟨gb502, 2, none⟩ (.slice Ao53 t499.length co53)) w.heap.size (fun k_ => some k_ ≠ (v484 : Value).ownBlock ∧ some k_ ≠ (.slice Ao49 t493.length co49 : Value).ownBlock) (.slice (some ad482) t459.length co8) t459) := ⟨kr (Kd.R_mono (kF (p := ⟨gb502, 2, none⟩) (kF (p := ⟨gb502, 1, none⟩) (kF (p := ⟨gb502, 0, none⟩) (Kd.R_types HO_471000.out BK502.out (by decide)) (fun _ hk => hk.2) (.slice Ao49 t493.length co49)) (fun _ hk => hk.2) (.slice Ao51 t496.length co51)) (fun _ hk => hk.2) (.slice Ao53 t499.length co53)) (fun _ hk => ⟨hk.1.1, hk.1.2⟩))⟩
   have n1_ : Aside0 (Kd.N k129 129 (((w48.setCell ⟨gb502, 0, none⟩ (.slice Ao49 t493.length co49)).setCell ⟨gb502, 1, none⟩ (.slice Ao51 t496.length co51)).setCell ⟨gb502, 2, none⟩ (.slice Ao53 t499.length co53)) w.heap.size (fun k_ => some k_ ≠ (.slice (some ad482) t459.length co8 : Value).ownBlock ∧ some k_ ≠ (.slice Ao11 t465.length co11 : Value).ownBlock ∧ some k_ ≠ (v484 : Value).ownBlock ∧ some k_ ≠ (v487 : Value).ownBlock ∧ some k_ ≠ (v490 : Value).ownBlock ∧ some k_ ≠ (.slice Ao49 t493.length co49 : Value).ownBlock ∧ some k_ ≠ (.slice Ao51 t496.length co51 : Value).ownBlock ∧ some k_ ≠ (.slice Ao53 t499.length co53 : Value).ownBlock ∧ k_ ≠ gb470 ∧ k_ ≠ gb502) (.slice Ao10 t462.length co10) t462) := ⟨by (with_reducible repeat (first | apply Kd.N_alloc | apply Kd.N_drewN | apply Kd.N_drew)); exact Kd.N_mono (Kd.N_far (p := ⟨gb502, 2, none⟩) (Kd.N_far (p := ⟨gb502, 1, none⟩) (Kd.N_far (p := ⟨gb502, 0, none⟩) (Kd.N_mono HO_471001.out (fun k_ hk => (⟨hk, hk.2.2.2.2.2.2.2.2.2⟩ : _ ∧ k_ ≠ gb502))) (fun _ hk => hk.2) (.slice Ao49 t493.length co49)) (fun _ hk => hk.2) (.slice Ao51 t496.length co51)) (fun _ hk => hk.2) (.slice Ao53 t499.length co53)) (fun _ hk => ⟨hk.1.2.2.2.2.2.2.1, ⟨hk.1.2.2.2.2.2.2.2.1, ⟨hk.1.1, ⟨hk.1.2.1, ⟨hk.1.2.2.1, ⟨hk.1.2.2.2.1, ⟨hk.1.2.2.2.2.1, ⟨hk.1.2.2.2.2.2.1, ⟨hk.1.2.2.2.2.2.2.2.2.1, hk.1.2.2.2.2.2.2.2.2.2⟩⟩⟩⟩⟩⟩⟩⟩⟩)⟩
   have n2_ : Aside0 (Kd.R k40 40 (((w48.setCell ⟨gb502, 0, none⟩ (.slice Ao49 t493.length co49)).setCell ⟨gb502, 1, none⟩ (.slice Ao51 t496.length co51)).setCell ⟨gb502, 2, none⟩ (.slice Ao53 t499.length co53)) w.heap.size (fun k_ => some k_ ≠ (v490 : Value).ownBlock ∧ some k_ ≠ (.slice Ao53 t499.length co53 : Value).ownBlock) (.slice Ao11 t465.length co11) t465) := ⟨kr (Kd.R_mono (kF (p := ⟨gb502, 2, none⟩) (kF (p := ⟨gb502, 1, none⟩) (kF (p := ⟨gb502, 0, none⟩) (Kd.R_types HO_471002.out BK502.out (by decide)) (fun _ hk => hk.2) (.slice Ao49 t493.length co49)) (fun _ hk => hk.2) (.slice Ao51 t496.length co51)) (fun _ hk => hk.2) (.slice Ao53 t499.length co53)) (fun _ hk => ⟨hk.1.1, hk.1.2⟩))⟩
   have n3_ : Aside0 (Kd.R Kd.bool 4 (((w48.setCell ⟨gb502, 0, none⟩ (.slice Ao49 t493.length co49)).setCell ⟨gb502, 1, none⟩ (.slice Ao51 t496.length co51)).setCell ⟨gb502, 2, none⟩ (.slice Ao53 t499.length co53)) w.heap.size (fun k_ => some k_ ≠ (.slice (some ad482) t459.length co8 : Value).ownBlock ∧ some k_ ≠ (.slice Ao49 t493.length co49 : Value).ownBlock) v484 t483) := ⟨kr (Kd.R_mono (kF (p := ⟨gb502, 2, none⟩) (kF (p := ⟨gb502, 1, none⟩) (kF (p := ⟨gb502, 0, none⟩) (Kd.R_types HO485.out BK502.out (by decide)) (fun _ hk => hk.2) (.slice Ao49 t493.length co49)) (fun _ hk => hk.2) (.slice Ao51 t496.length co51)) (fun _ hk => hk.2) (.slice Ao53 t499.length co53)) (fun _ hk => ⟨hk.1.2, hk.1.1⟩))⟩
   have n4_ : Aside0 (Kd.N k129 129 (((w48.setCell ⟨gb502, 0, none⟩ (.slice Ao49 t493.length co49)).setCell ⟨gb502, 1, none⟩ (.slice Ao51 t496.length co51)).setCell ⟨gb502, 2, none⟩ (.slice Ao53 t499.length co53)) w.heap.size (fun k_ => some k_ ≠ (.slice (some ad482) t459.length co8 : Value).ownBlock ∧ some k_ ≠ (.slice Ao10 t462.length co10 : Value).ownBlock ∧ some k_ ≠ (.slice Ao11 t465.length co11 : Value).ownBlock ∧ some k_ ≠ (v484 : Value).ownBlock ∧ some k_ ≠ (v490 : Value).ownBlock ∧ some k_ ≠ (.slice Ao49 t493.length co49 : Value).ownBlock ∧ some k_ ≠ (.slice Ao51 t496.length co51 : Value).ownBlock ∧ some k_ ≠ (.slice Ao53 t499.length co53 : Value).ownBlock ∧ k_ ≠ gb470 ∧ k_ ≠ gb502) v487 t486) := ⟨by (with_reducible repeat (first | apply Kd.N_alloc | apply Kd.N_drewN | apply Kd.N_drew)); exact Kd.N_mono (Kd.N_far (p := ⟨gb502, 2, none⟩) (Kd.N_far (p := ⟨gb502, 1, none⟩) (Kd.N_far (p := ⟨gb502, 0, none⟩) (Kd.N_mono HO488.out (fun k_ hk => (⟨hk, hk.2.2.2.2.2.2.2.2.2⟩ : _ ∧ k_ ≠ gb502))) (fun _ hk => hk.2) (.slice Ao49 t493.length co49)) (fun _ hk => hk.2) (.slice Ao51 t496.length co51)) (fun _ hk => hk.2) (.slice Ao53 t499.length co53)) (fun _ hk => ⟨hk.1.2.2.2.2.2.1, ⟨hk.1.2.2.2.2.2.2.1, ⟨hk.1.2.2.2.2.2.2.2.1, ⟨hk.1.1, ⟨hk.1.2.1, ⟨hk.1.2.2.1, ⟨hk.1.2.2.2.1, ⟨hk.1.2.2.2.2.1, ⟨hk.1.2.2.2.2.2.2.2.2.1, hk.1.2.2.2.2.2.2.2.2.2⟩⟩⟩⟩⟩⟩⟩⟩⟩)⟩
   have n5_ : Aside0 (Kd.R k40 40 (((w48.setCell ⟨gb502, 0, none⟩ (.slice Ao49 t493.length co49)).setCell ⟨gb502, 1, none⟩ (.slice Ao51 t496.length co51)).setCell ⟨gb502, 2, none⟩ (.slice Ao53 t499.length co53)) w.heap.size (fun k_ => some k_ ≠ (.slice Ao11 t465.length co11 : Value).ownBlock ∧ some k_ ≠ (.slice Ao53 t499.length co53 : Value).ownBlock) v490 t489) := ⟨kr (Kd.R_mono (kF (p := ⟨gb502, 2, none⟩) (kF (p := ⟨gb502, 1, none⟩) (kF (p := ⟨gb502, 0, none⟩) (Kd.R_types HO491.out BK502.out (by decide)) (fun _ hk => hk.2) (.slice Ao49 t493.length co49)) (fun _ hk => hk.2) (.slice Ao51 t496.length co51)) (fun _ hk => hk.2) (.slice Ao53 t499.length co53)) (fun _ hk => ⟨hk.1.2, hk.1.1⟩))⟩
   have n6_ : Aside0 (Kd.R Kd.bool 4 (((w48.setCell ⟨gb502, 0, none⟩ (.slice Ao49 t493.length co49)).setCell ⟨gb502, 1, none⟩ (.slice Ao51 t496.length co51)).setCell ⟨gb502, 2, none⟩ (.slice Ao53 t499.length co53)) w.heap.size (fun k_ => some k_ ≠ (.slice (some ad482) t459.length co8 : Value).ownBlock ∧ some k_ ≠ (v484 : Value).ownBlock) (.slice Ao49 t493.length co49) t493) := ⟨kr (Kd.R_mono (kF (p := ⟨gb502, 2, none⟩) (kF (p := ⟨gb502, 1, none⟩) (kF (p := ⟨gb502, 0, none⟩) (Kd.R_types HO495.out BK502.out (by decide)) (fun _ hk => hk.2) (.slice Ao49 t493.length co49)) (fun _ hk => hk.2) (.slice Ao51 t496.length co51)) (fun _ hk => hk.2) (.slice Ao53 t499.length co53)) (fun _ hk => ⟨hk.1.2, hk.1.1⟩))⟩
   have n7_ : Aside0 (Kd.N k129 129 (((w48.setCell ⟨gb502, 0, none⟩ (.slice Ao49 t493.length co49)).setCell ⟨gb502, 1, none⟩ (.slice Ao51 t496.length co51)).setCell ⟨gb502, 2, none⟩ (.slice Ao53 t499.length co53)) w.heap.size (fun k_ => some k_ ≠ (.slice (some ad482) t459.length co8 : Value).ownBlock ∧ some k_ ≠ (.slice Ao10 t462.length co10 : Value).ownBlock ∧ some k_ ≠ (.slice Ao11 t465.length co11 : Value).ownBlock ∧ some k_ ≠ (v484 : Value).ownBlock ∧ some k_ ≠ (v487 : Value).ownBlock ∧ some k_ ≠ (v490 : Value).ownBlock ∧ some k_ ≠ (.slice Ao49 t493.length co49 : Value).ownBlock ∧ some k_ ≠ (.slice Ao53 t499.length co53 : Value).ownBlock ∧ k_ ≠ gb470 ∧ k_ ≠ gb502) (.slice Ao51 t496.length co51) t496) := ⟨by (with_reducible repeat (first | apply Kd.N_alloc | apply Kd.N_drewN | apply Kd.N_drew)); exact Kd.N_mono (Kd.N_far (p := ⟨gb502, 2, none⟩) (Kd.N_far (p := ⟨gb502, 1, none⟩) (Kd.N_far (p := ⟨gb502, 0, none⟩) (Kd.N_mono HO498.out (fun k_ hk => (⟨hk, hk.2.2.2.2.2.2.2.2.2⟩ : _ ∧ k_ ≠ gb502))) (fun _ hk => hk.2) (.slice Ao49 t493.length co49)) (fun _ hk => hk.2) (.slice Ao51 t496.length co51)) (fun _ hk => hk.2) (.slice Ao53 t499.length co53)) (fun _ hk => ⟨hk.1.2.2.2.2.2.1, ⟨hk.1.2.2.2.2.2.2.1, ⟨hk.1.2.2.2.2.2.2.2.1, ⟨hk.1.1, ⟨hk.1.2.1, ⟨hk.1.2.2.1, ⟨hk.1.2.2.2.1, ⟨hk.1.2.2.2.2.1, ⟨hk.1.2.2.2.2.2.2.2.2.1, hk.1.2.2.2.2.2.2.2.2.2⟩⟩⟩⟩⟩⟩⟩⟩⟩)⟩
   have n8_ : Aside0 (Kd.R k40 40 (((w48.setCell ⟨gb502, 0, none⟩ (.slice Ao49 t493.length co49)).setCell ⟨gb502, 1, none⟩ (.slice Ao51 t496.length co51)).setCell ⟨gb502, 2, none⟩ (.slice Ao53 t499.length co53)) w.heap.size (fun k_ => some k_ ≠ (.slice Ao11 t465.length co11 : Value).ownBlock ∧ some k_ ≠ (v490 : Value).ownBlock) (.slice Ao53 t499.length co53) t499) := ⟨kr (Kd.R_mono (kF (p := ⟨gb502, 2, none⟩) (kF (p := ⟨gb502, 1, none⟩) (kF (p := ⟨gb502, 0, none⟩) (Kd.R_types HO501.out BK502.out (by decide)) (fun _ hk => hk.2) (.slice Ao49 t493.length co49)) (fun _ hk => hk.2) (.slice Ao51 t496.length co51)) (fun _ hk => hk.2) (.slice Ao53 t499.length co53)) (fun _ hk => ⟨hk.1.2, hk.1.1⟩))⟩
   have n9_ : Aside0 ((((w48.setCell ⟨gb502, 0, none⟩ (.slice Ao49 t493.length co49)).setCell ⟨gb502, 1, none⟩ (.slice Ao51 t496.length co51)).setCell ⟨gb502, 2, none⟩ (.slice Ao53 t499.length co53)).heap[gb470]? = some (.cells #[.slice (some ad482) t459.length co8, .slice Ao10 t462.length co10, .slice Ao11 t465.length co11] 73 (0, 0))) := ⟨by (with_reducible repeat (first | refine blk_drewN ?_ _ | refine blk_drew ?_ | refine blk_alloc ?_ _)); refine blk_far ?_ NB470_502.out _; (with_reducible repeat (first | refine blk_drewN ?_ _ | refine blk_drew ?_ | refine blk_alloc ?_ _)); refine blk_far ?_ NB470_502.out _; (with_reducible repeat (first | refine blk_drewN ?_ _ | refine blk_drew ?_ | refine blk_alloc ?_ _)); refine blk_far ?_ NB470_502.out _; (with_reducible repeat (first | refine blk_drewN ?_ _ | refine blk_drew ?_ | refine blk_alloc ?_ _)); exact BK470.out⟩
   have n10_ : Aside0 ((((w48.setCell ⟨gb502, 0, none⟩ (.slice Ao49 t493.length co49)).setCell ⟨gb502, 1, none⟩ (.slice Ao51 t496.length co51)).setCell ⟨gb502, 2, none⟩ (.slice Ao53 t499.length co53)).heap[gb502]? = some (.cells #[.slice Ao49 t493.length co49, .slice Ao51 t496.length co51, .slice Ao53 t499.length co53] 73 (0, 0))) := ⟨by (with_reducible repeat (first | refine blk_drewN ?_ _ | refine blk_drew ?_ | refine blk_alloc ?_ _)); refine blk_put (cs := #[.slice Ao49 t493.length co49, .slice Ao51 t496.length co51, .slice none 0 0]) ?_ 2 _ rfl; (with_reducible repeat (first | refine blk_drewN ?_ _ | refine blk_drew ?_ | refine blk_alloc ?_ _)); refine blk_put (cs := #[.slice Ao49 t493.length co49, .slice none 0 0, .slice none 0 0]) ?_ 1 _ rfl; (with_reducible repeat (first | refine blk_drewN ?_ _ | refine blk_drew ?_ | refine blk_alloc ?_ _)); refine blk_put (cs := #[.slice none 0 0, .slice none 0 0, .slice none 0 0]) ?_ 0 _ rfl; (with_reducible repeat (first | refine blk_drewN ?_ _ | refine blk_drew ?_ | refine blk_alloc ?_ _)); exact BK502.out⟩
   have n11_ : Aside0 (Below w.heap.size w (((w48.setCell ⟨gb502, 0, none⟩ (.slice Ao49 t493.length co49)).setCell ⟨gb502, 1, none⟩ (.slice Ao51 t496.length co51)).setCell ⟨gb502, 2, none⟩ (.slice Ao53 t499.length co53))) := ⟨bl HB.out⟩
   (try clear HO_471000)
   (try clear HO_471001)
   (try clear HO_471002)
   (try clear HO485)
   (try clear HO488)
   (try clear HO491)
   (try clear HO495)
   (try clear HO498)
   (try clear HO501)
   (try clear BK470)
   (try clear BK502)
   (try clear HB)
   generalize (((w48.setCell ⟨gb502, 0, none⟩ (.slice Ao49 t493.length co49)).setCell ⟨gb502, 1, none⟩ (.slice Ao51 t496.length co51)).setCell ⟨gb502, 2, none⟩ (.slice Ao53 t499.length co53)) = w55 at n0_ n1_ n2_ n3_ n4_ n5_ n6_ n7_ n8_ n9_ n10_ n11_ ⊢
   have HO_471000 := n0_
   have HO_471001 := n1_
   have HO_471002 := n2_
   have HO485 := n3_
   have HO488 := n4_
   have HO491 := n5_
   have HO495 := n6_
   have HO498 := n7_
   have HO501 := n8_
   have BK470 := n9_
   have BK502 := n10_
   have HB := n11_
   clear n0_ n1_ n2_ n3_ n4_ n5_ n6_ n7_ n8_ n9_ n10_ n11_
   have n0_ := aM (Kd.R_drew HO_471000.out)
   have n1_ := aM (Kd.N_drew HO_471001.out)
   have n2_ := aM (Kd.R_drew HO_471002.out)
   have n3_ := aM (Kd.R_drew HO485.out)
   have n4_ := aM (Kd.N_drew HO488.out)
   have n5_ := aM (Kd.R_drew HO491.out)
   have n6_ := aM (Kd.R_drew HO495.out)
   have n7_ := aM (Kd.N_drew HO498.out)
   have n8_ := aM (Kd.R_drew HO501.out)
   have n9_ := aM (blk_drew BK470.out)
   have n10_ := aM (blk_drew BK502.out)
   have n11_ := aM (below_drew1 HB.out)
   clear HO_471000 HO_471001
   clear HO_471002 HO485
   clear HO488 HO491
   clear HO495 HO498
   clear HO501 BK470
   clear BK502 HB
   have HO_471000 := n0_
   have HO_471001 := n1_
   have HO_471002 := n2_
   have HO485 := n3_
   have HO488 := n4_
   have HO491 := n5_
   have HO495 := n6_
   have HO498 := n7_
   have HO501 := n8_
   have BK470 := n9_
   have BK502 := n10_
   have HB := n11_
   clear n0_ n1_ n2_ n3_ n4_ n5_ n6_ n7_ n8_ n9_ n10_ n11_
   refine start_ (n := 19) (S := fun w' => w'.cell? ⟨gb502, 0, none⟩ = some (.slice Ao49 t493.length co49) ∧ w'.cell? ⟨gb502, 1, none⟩ = some (.slice Ao51 t496.length co51) ∧ w'.cell? ⟨gb502, 2, none⟩ = some (.slice Ao53 t499.length co53) ∧ w'.cell? ⟨gb470, 0, none⟩ = some (.slice (some ad482) t459.length co8) ∧ w'.cell? ⟨gb470, 1, none⟩ = some (.slice Ao10 t462.length co10) ∧ w'.cell? ⟨gb470, 2, none⟩ = some (.slice Ao11 t465.length co11)) (ds := []) #[U,U,U,U,U,U,U,U,U,U,U,U,U,U,U,U,U,U,U] (by kernel_rfl) rfl rfl ⟨cI BK502.out 0, cI BK502.out 1, cI BK502.out 2, cI BK470.out 0, cI BK470.out 1, cI BK470.out 2⟩ (fun hHeld => ?_); refine with_tabW laws_FnFlushed.tab7 laws_FnFlushed.bits7 (fun HT_ HW_ => ?_)
   generalize w55.drew = w56 at HO_471000 HO_471001 HO_471002 HO485 HO488 HO491 HO495 HO498 HO501 BK470 BK502 HB hHeld ⊢
   refine pure_ (i := 0) (N := some 51) (v := ?_) (a' := ?_) #[Y,U,U,U,U,U,U,U,U,U,U,U,U,U,U,U,U,U,U] rfl rfl (any_of HT_.out (by kernel_rfl)) (fun _ _ _ h => h) (Or.inl ⟨by rfl, ?_⟩) ?_ ?_
   rotate_left
   ·intro w'
    go_simp
    with_reducible rfl
   rotate_left
   ·simp only [Act.put, sA, sZ, sS, i64_w, i32_w]
    rfl
   refine pure_ (i := 2) (N := some 53) (v := ?_) (a' := ?_) #[Y,U,Y,U,U,U,U,U,U,U,U,U,U,U,U,U,U,U,U] rfl rfl (any_of HT_.out (by kernel_rfl)) (fun _ _ _ h => h) (Or.inl ⟨by rfl, ?_⟩) ?_ ?_
   rotate_left
   ·intro w'
    go_simp
    with_reducible rfl
   rotate_left
   ·simp only [Act.put, sA, sZ, sS, i64_w, i32_w]
    rfl
   refine pure_ (i := 4) (N := some 55) (v := ?_) (a' := ?_) #[Y,U,Y,U,Y,U,U,U,U,U,U,U,U,U,U,U,U,U,U] rfl rfl (any_of HT_.out (by kernel_rfl)) (fun _ _ _ h => h) (Or.inl ⟨by rfl, ?_⟩) ?_ ?_
   rotate_left
   ·intro w'
    go_simp
    with_reducible rfl
   rotate_left
   ·simp only [Act.put, sA, sZ, sS, i64_w, i32_w]
    rfl
   refine take_ (i := 1) (N := some 52) (v := ?_) (a' := ?_) #[Y,Y,Y,U,Y,U,U,U,U,U,U,U,U,U,U,U,U,U,U] rfl rfl (take_ofW HT_.out HW_.out (by kernel_rfl)) (fun _ _ _ h => h) (Or.inl ⟨by rfl, ?_⟩) hHeld ?_ ?_
   rotate_left
   ·rintro w' ⟨s0, s1, s2, s3, s4, s5⟩
    go_simp
    with_reducible rfl
   rotate_left
   ·simp only [Act.put, sA, sZ, sS, i64_w, i32_w]
    rfl
   refine take_ (i := 3) (N := some 54) (v := ?_) (a' := ?_) #[Y,Y,Y,Y,Y,U,U,U,U,U,U,U,U,U,U,U,U,U,U] rfl rfl (take_ofW HT_.out HW_.out (by kernel_rfl)) (fun _ _ _ h => h) (Or.inl ⟨by rfl, ?_⟩) hHeld ?_ ?_
   rotate_left
   ·rintro w' ⟨s0, s1, s2, s3, s4, s5⟩
    go_simp
    with_reducible rfl
   rotate_left
   ·simp only [Act.put, sA, sZ, sS, i64_w, i32_w]
    rfl
   refine one_ (i := 5) (N := some 56) #[Y,Y,Y,Y,Y,Y,U,U,U,U,U,U,U,U,U,U,U,U,U] rfl rfl (one_of HT_.out (by kernel_rfl)) (by decide) (fun K hK => ?_)
   refine goes_ Try.func17 (by kernel_rfl) rfl #[.slice Ao11 t465.length co11, .int .i64 t468] (by rfl) rfl rfl xR ?_
   with_reducible refine (impl_Forget.calls kj4 _ _ t465 t468 t503 _ ?side1 ?side2 A35.out).mono ?_
   (case side1 => repeat (first | exact (Kd.R_reads' HO_471002.out).2.2 | (with_reducible refine Kd.C_alloc ?_ _) | (with_reducible refine Kd.C_drewN ?_ _) | (with_reducible refine Kd.C_drew ?_)))
   (case side2 => exact (Kd.R_reads' HO_471002.out).2.1)
   rintro e w57 ⟨v504, rfl, ho0, hb⟩
   refine ⟨_, rfl, ?_⟩
   have n0_ := aM (kB (kr HO_471000.out) hb)
   have n1_ := aM (Kd.N_elder' (by (with_reducible repeat (first | apply Kd.N_alloc | apply Kd.N_drewN | apply Kd.N_drew)); exact HO_471001.out) (Kd.R_base ho0) hb)
   have n2_ := aM (Kd.R_elder' (kr HO_471002.out) (Kd.R_base ho0) hb)
   have n3_ := aM (kB (kr HO485.out) hb)
   have n4_ := aM (Kd.N_elder' (by (with_reducible repeat (first | apply Kd.N_alloc | apply Kd.N_drewN | apply Kd.N_drew)); exact HO488.out) (Kd.R_base ho0) hb)
   have n5_ := aM (Kd.R_elder' (kr HO491.out) (Kd.R_base ho0) hb)
   have n6_ := aM (kB (kr HO495.out) hb)
   have n7_ := aM (Kd.N_elder' (by (with_reducible repeat (first | apply Kd.N_alloc | apply Kd.N_drewN | apply Kd.N_drew)); exact HO498.out) (Kd.R_base ho0) hb)
   have n8_ := aM (Kd.R_elder' (kr HO501.out) (Kd.R_base ho0) hb)
   have n9_ := aM (Kd.R_lower (Kd.R_new' (Kd.R_new' (Kd.R_new' ho0 (Kd.R_lt (kr HO_471002.out))) (Kd.R_lt (kr HO491.out))) (Kd.R_lt (kr HO501.out))) (below_size (bl HB.out)))
   have n10_ := aM (bB (g := gb470) (o := .cells #[.slice (some ad482) t459.length co8, .slice Ao10 t462.length co10, .slice Ao11 t465.length co11] 73 (0, 0)) (bk BK470.out) hb)
   have n11_ := aM (bB (g := gb502) (o := .cells #[.slice Ao49 t493.length co49, .slice Ao51 t496.length co51, .slice Ao53 t499.length co53] 73 (0, 0)) (bk BK502.out) hb)
   have n12_ := aM (bS (bl HB.out) hb)
   clear HO_471000 HO_471001
   clear HO_471002 HO485
   clear HO488 HO491
   clear HO495 HO498
   clear HO501 BK470
   clear BK502 HB
   have HO_471000 := n0_
   have HO_471001 := n1_
   have HO_471002 := n2_
   have HO485 := n3_
   have HO488 := n4_
   have HO491 := n5_
   have HO495 := n6_
   have HO498 := n7_
   have HO501 := n8_
   have HO505 := n9_
   have BK470 := n10_
   have BK502 := n11_
   have HB := n12_
   clear n0_ n1_ n2_ n3_ n4_ n5_ n6_ n7_ n8_ n9_ n10_ n11_ n12_
   (try clear hb)
   (try clear hb2)
   (try clear hk)
   (try clear hi)
   (try clear ho0)
   obtain ⟨Ao58, co58, eo58⟩ := Kd.R_slice HO505.out
   (first | subst eo58 | (injection eo58 with f1_ f2_ f3_; have f4_ := f1_.symm; have f5_ := f3_.symm; clear f1_ f2_ f3_; subst f4_; subst f5_))
   refine hK.out _ _ ⟨cI BK502.out 0, cI BK502.out 1, cI BK502.out 2, cI BK470.out 0, cI BK470.out 1, cI BK470.out 2⟩ (fun hHeld => ?_)
   clear hK K
   refine norm_ (a' := ?_) ?_ ?_
   rotate_left
   ·show Act.put _ (some 56) _ = _
    simp only [Act.put, sA, sZ, sS, i64_w, i32_w]
    rfl
   refine one_ (i := 6) (N := some 57) #[Y,Y,Y,Y,Y,Y,Y,U,U,U,U,U,U,U,U,U,U,U,U] rfl rfl (one_of HT_.out (by kernel_rfl)) (by decide) (fun K hK => ?_)
   refine goes_ Try.func22 (by kernel_rfl) rfl #[.slice Ao53 t499.length co53, .slice Ao58 t503.length co58] (by rfl) rfl rfl xR ?_
   with_reducible refine (laws_sameHeard.calls kj4 _ _ t499 _ _ t503 true _ ?side1 ?side2 ?side3 ?side4 A36.out).mono ?_
   (case side1 => repeat (first | exact (Kd.R_reads' HO501.out).2.2 | (with_reducible refine Kd.C_alloc ?_ _) | (with_reducible refine Kd.C_drewN ?_ _) | (with_reducible refine Kd.C_drew ?_)))
   (case side2 => exact (Kd.R_reads' HO501.out).2.1)
   (case side3 => repeat (first | exact (Kd.R_reads' HO505.out).2.2 | (with_reducible refine Kd.C_alloc ?_ _) | (with_reducible refine Kd.C_drewN ?_ _) | (with_reducible refine Kd.C_drew ?_)))
   (case side4 => exact (Kd.R_reads' HO505.out).2.1)
   rintro e w' ⟨rfl, ⟨nd, rfl⟩⟩
   refine ⟨_, rfl, ?_⟩
   refine hK.out _ _ ⟨cI BK502.out 0, cI BK502.out 1, cI BK502.out 2, cI BK470.out 0, cI BK470.out 1, cI BK470.out 2⟩ (fun hHeld => ?_)
   clear hK K
   refine norm_ (a' := ?_) ?_ ?_
   rotate_left
   ·show Act.put _ (some 57) _ = _
    simp only [Act.put, sA, sZ, sS, i64_w, i32_w]
    rfl
   refine pure_ (i := 7) (N := some 58) (v := ?_) (a' := ?_) #[Y,Y,Y,Y,Y,Y,Y,Y,U,U,U,U,U,U,U,U,U,U,U] rfl rfl (any_of HT_.out (by kernel_rfl)) (fun _ _ _ h => h) (Or.inl ⟨by rfl, ?_⟩) ?_ ?_
   rotate_left
   ·intro w'
    go_simp
    with_reducible rfl
   rotate_left
   ·simp only [Act.put, sA, sZ, sS, i64_w, i32_w]
    rfl
   refine pure_ (i := 8) (N := some 59) (v := ?_) (a' := ?_) #[Y,Y,Y,Y,Y,Y,Y,Y,Y,U,U,U,U,U,U,U,U,U,U] rfl rfl (any_of HT_.out (by kernel_rfl)) (fun _ _ _ h => h) (Or.inl ⟨by rfl, ?_⟩) ?_ ?_
   rotate_left
   ·intro w'
    go_simp
    with_reducible rfl
   rotate_left
   ·simp only [Act.put, sA, sZ, sS, i64_w, i32_w]
    rfl
   refine pure_ (i := 10) (N := some 61) (v := ?_) (a' := ?_) #[Y,Y,Y,Y,Y,Y,Y,Y,Y,U,Y,U,U,U,U,U,U,U,U] rfl rfl (any_of HT_.out (by kernel_rfl)) (fun _ _ _ h => h) (Or.inl ⟨by rfl, ?_⟩) ?_ ?_
   rotate_left
   ·intro w'
    go_simp
    with_reducible rfl
   rotate_left
   ·simp only [Act.put, sA, sZ, sS, i64_w, i32_w]
    rfl
   refine take_ (i := 9) (N := some 60) (v := ?_) (a' := ?_) #[Y,Y,Y,Y,Y,Y,Y,Y,Y,Y,Y,U,U,U,U,U,U,U,U] rfl rfl (take_ofW HT_.out HW_.out (by kernel_rfl)) (fun _ _ _ h => h) (Or.inl ⟨by rfl, ?_⟩) hHeld ?_ ?_
   rotate_left
   ·rintro w' ⟨s0, s1, s2, s3, s4, s5⟩
    go_simp
    with_reducible rfl
   rotate_left
   ·simp only [Act.put, sA, sZ, sS, i64_w, i32_w]
    rfl
   refine take_ (i := 11) (N := some 62) (v := ?_) (a' := ?_) #[Y,Y,Y,Y,Y,Y,Y,Y,Y,Y,Y,Y,U,U,U,U,U,U,U] rfl rfl (take_ofW HT_.out HW_.out (by kernel_rfl)) (fun _ _ _ h => h) (Or.inl ⟨by rfl, ?_⟩) hHeld ?_ ?_
   rotate_left
   ·rintro w' ⟨s0, s1, s2, s3, s4, s5⟩
    go_simp
    with_reducible rfl
   rotate_left
   ·simp only [Act.put, sA, sZ, sS, i64_w, i32_w]
    rfl
   refine one_ (i := 12) (N := some 63) #[Y,Y,Y,Y,Y,Y,Y,Y,Y,Y,Y,Y,Y,U,U,U,U,U,U] rfl rfl (one_of HT_.out (by kernel_rfl)) (by decide) (fun K hK => ?_)
   refine goes_ Try.func57 (by kernel_rfl) rfl #[.slice Ao49 t493.length co49, .slice (some ad482) t459.length co8] (by rfl) rfl rfl xR ?_
   with_reducible refine (laws_sameFlags.calls kj4 _ _ t493 _ _ t459 true _ ?side1 ?side2 ?side3 ?side4 A38.out).mono ?_
   (case side1 => repeat (first | exact (Kd.R_reads' HO495.out).2.2 | (with_reducible refine Kd.C_alloc ?_ _) | (with_reducible refine Kd.C_drewN ?_ _) | (with_reducible refine Kd.C_drew ?_)))
   (case side2 => exact (Kd.R_reads' HO495.out).2.1)
   (case side3 => repeat (first | exact (Kd.R_reads' HO_471000.out).2.2 | (with_reducible refine Kd.C_alloc ?_ _) | (with_reducible refine Kd.C_drewN ?_ _) | (with_reducible refine Kd.C_drew ?_)))
   (case side4 => exact (Kd.R_reads' HO_471000.out).2.1)
   rintro e w' ⟨rfl, ⟨nd, rfl⟩⟩
   refine ⟨_, rfl, ?_⟩
   refine hK.out _ _ ⟨cI BK502.out 0, cI BK502.out 1, cI BK502.out 2, cI BK470.out 0, cI BK470.out 1, cI BK470.out 2⟩ (fun hHeld => ?_)
   clear hK K
   refine norm_ (a' := ?_) ?_ ?_
   rotate_left
   ·show Act.put _ (some 63) _ = _
    simp only [Act.put, sA, sZ, sS, i64_w, i32_w]
    rfl
   refine pure_ (i := 13) (N := some 64) (v := ?_) (a' := ?_) #[Y,Y,Y,Y,Y,Y,Y,Y,Y,Y,Y,Y,Y,Y,U,U,U,U,U] rfl rfl (any_of HT_.out (by kernel_rfl)) (fun _ _ _ h => h) (Or.inl ⟨by rfl, ?_⟩) ?_ ?_
   rotate_left
   ·intro w'
    go_simp
    with_reducible rfl
   rotate_left
   ·simp only [Act.put, sA, sZ, sS, i64_w, i32_w]
    rfl
   refine pure_ (i := 14) (N := some 65) (v := ?_) (a' := ?_) #[Y,Y,Y,Y,Y,Y,Y,Y,Y,Y,Y,Y,Y,Y,Y,U,U,U,U] rfl rfl (any_of HT_.out (by kernel_rfl)) (fun _ _ _ h => h) (Or.inl ⟨by rfl, ?_⟩) ?_ ?_
   rotate_left
   ·intro w'
    go_simp
    with_reducible rfl
   rotate_left
   ·simp only [Act.put, sA, sZ, sS, i64_w, i32_w]
    rfl
   refine take_ (i := 15) (N := some 66) (v := ?_) (a' := ?_) #[Y,Y,Y,Y,Y,Y,Y,Y,Y,Y,Y,Y,Y,Y,Y,Y,U,U,U] rfl rfl (take_ofW HT_.out HW_.out (by kernel_rfl)) (fun _ _ _ h => h) (Or.inl ⟨by rfl, ?_⟩) hHeld ?_ ?_
   rotate_left
   ·rintro w' ⟨s0, s1, s2, s3, s4, s5⟩
    go_simp
    with_reducible rfl
   rotate_left
   ·simp only [Act.put, sA, sZ, sS, i64_w, i32_w]
    rfl
   refine one_ (i := 16) (N := some 67) #[Y,Y,Y,Y,Y,Y,Y,Y,Y,Y,Y,Y,Y,Y,Y,Y,Y,U,U] rfl rfl (one_of HT_.out (by kernel_rfl)) (by decide) (fun K hK => ?_)
   refine goes_ Try.func52 (by kernel_rfl) rfl #[.agg #[.slice Ao49 t493.length co49, .slice Ao51 t496.length co51, .slice Ao53 t499.length co53]] (by rfl) rfl rfl xR ?_
   with_reducible refine (impl_CardOk.calls kj4 _ _ t493 _ _ t496 _ _ t499 true _ ?side1 ?side2 ?side3 ?side4 ?side5 ?side6 A40.out).mono ?_
   (case side1 => repeat (first | exact (Kd.R_reads' HO495.out).2.2 | (with_reducible refine Kd.C_alloc ?_ _) | (with_reducible refine Kd.C_drewN ?_ _) | (with_reducible refine Kd.C_drew ?_)))
   (case side2 => exact (Kd.R_reads' HO495.out).2.1)
   (case side3 => repeat (first | exact (Kd.N_reads' HO498.out).2.2 | (with_reducible refine Kd.C_alloc ?_ _) | (with_reducible refine Kd.C_drewN ?_ _) | (with_reducible refine Kd.C_drew ?_)))
   (case side4 => exact (Kd.N_reads' HO498.out).2.1)
   (case side5 => repeat (first | exact (Kd.R_reads' HO501.out).2.2 | (with_reducible refine Kd.C_alloc ?_ _) | (with_reducible refine Kd.C_drewN ?_ _) | (with_reducible refine Kd.C_drew ?_)))
   (case side6 => exact (Kd.R_reads' HO501.out).2.1)
   rintro e w59 ⟨rfl, hb⟩
   refine ⟨_, rfl, ?_⟩
   have n0_ := aM (kB (kr HO_471000.out) hb)
   have n1_ := aM (Kd.N_below (by (with_reducible repeat (first | apply Kd.N_alloc | apply Kd.N_drewN | apply Kd.N_drew)); exact HO_471001.out) hb)
   have n2_ := aM (kB (kr HO_471002.out) hb)
   have n3_ := aM (kB (kr HO485.out) hb)
   have n4_ := aM (Kd.N_below (by (with_reducible repeat (first | apply Kd.N_alloc | apply Kd.N_drewN | apply Kd.N_drew)); exact HO488.out) hb)
   have n5_ := aM (kB (kr HO491.out) hb)
   have n6_ := aM (kB (kr HO495.out) hb)
   have n7_ := aM (Kd.N_below (by (with_reducible repeat (first | apply Kd.N_alloc | apply Kd.N_drewN | apply Kd.N_drew)); exact HO498.out) hb)
   have n8_ := aM (kB (kr HO501.out) hb)
   have n9_ := aM (kB (kr HO505.out) hb)
   have n10_ := aM (bB (g := gb470) (o := .cells #[.slice (some ad482) t459.length co8, .slice Ao10 t462.length co10, .slice Ao11 t465.length co11] 73 (0, 0)) (bk BK470.out) hb)
   have n11_ := aM (bB (g := gb502) (o := .cells #[.slice Ao49 t493.length co49, .slice Ao51 t496.length co51, .slice Ao53 t499.length co53] 73 (0, 0)) (bk BK502.out) hb)
   have n12_ := aM (bS (bl HB.out) hb)
   clear HO_471000 HO_471001
   clear HO_471002 HO485
   clear HO488 HO491
   clear HO495 HO498
   clear HO501 HO505
   clear BK470 BK502 HB
   have HO_471000 := n0_
   have HO_471001 := n1_
   have HO_471002 := n2_
   have HO485 := n3_
   have HO488 := n4_
   have HO491 := n5_
   have HO495 := n6_
   have HO498 := n7_
   have HO501 := n8_
   have HO505 := n9_
   have BK470 := n10_
   have BK502 := n11_
   have HB := n12_
   clear n0_ n1_ n2_ n3_ n4_ n5_ n6_ n7_ n8_ n9_ n10_ n11_ n12_
   (try clear hb)
   (try clear hb2)
   (try clear hk)
   (try clear hi)
   refine hK.out _ _ ⟨cI BK502.out 0, cI BK502.out 1, cI BK502.out 2, cI BK470.out 0, cI BK470.out 1, cI BK470.out 2⟩ (fun hHeld => ?_)
   clear hK K
   refine norm_ (a' := ?_) ?_ ?_
   rotate_left
   ·show Act.put _ (some 67) _ = _
    simp only [Act.put, sA, sZ, sS, i64_w, i32_w]
    rfl
   refine pure_ (i := 17) (N := some 68) (v := ?_) (a' := ?_) #[Y,Y,Y,Y,Y,Y,Y,Y,Y,Y,Y,Y,Y,Y,Y,Y,Y,Y,U] rfl rfl (any_of HT_.out (by kernel_rfl)) (fun _ _ _ h => h) (Or.inl ⟨by rfl, ?_⟩) ?_ ?_
   rotate_left
   ·intro w'
    go_simp
    with_reducible rfl
   rotate_left
   ·simp only [Act.put, sA, sZ, sS, i64_w, i32_w]
    rfl
   refine pure_ (i := 18) (N := some 2) (v := ?_) (a' := ?_) #[Y,Y,Y,Y,Y,Y,Y,Y,Y,Y,Y,Y,Y,Y,Y,Y,Y,Y,Y] rfl rfl (any_of HT_.out (by kernel_rfl)) (fun _ _ _ h => h) (Or.inl ⟨by rfl, ?_⟩) ?_ ?_
   rotate_left
   ·intro w'
    go_simp
    with_reducible rfl
   rotate_left
   ·simp only [Act.put, sA, sZ, sS, i64_w, i32_w]
    rfl
   refine done_ (done_of HT_.out (by kernel_rfl)) ?_
   try go_wp2
   go_ret
   exact ⟨xW, bl HB.out⟩

end Go.Proofs.Ytjaldondohddpaa.PFnFlushed
