/- Of the proof of laws.FnExactOwn: a part. No condition beyond what its theorems say. -/
import Derived.Test.YtjmkbmpfknhcdaaVFnExactOwnPx0
import Derived.Test.YtjmkbmpfknhcdaaVFnExactOwnPx1
import Derived.Test.YtjmkbmpfknhcdaaVFnExactOwnPx3
namespace Go.Proofs.Ytjmkbmpfknhcdaa.PFnExactOwn
open Go.RowKit Go.Proofs.YtjmkbmpfknhcdaaW.PrintWords Go.Proofs.YtjmkbmpfknhcdaaW.PrintLast Go.Proofs.YtjmkbmpfknhcdaaW.PrintMore
attribute [local go_sem] max2_int min2_int max_two min_two max_three min_three max_four min_four   -- for this text's walks alone
set_option linter.unusedVariables false
set_option linter.unusedSimpArgs false

attribute [local go_sem high] eqA77
mutual
def spec_PortOk.j0 : Nat → Bool → Bool → Bool → Int → Int → Int → Int → Int → Int → Int → Int → Bool → Option (Bool)
 | 0, _, _, _, _, _, _, _, _, _, _, _, _ => none
 | k + 1, x26, x152000, x152001, x152002, x152003, x152004, x152005, x152006, x152007, x152008, x152009, x152010 => if x26 = true then (some false) else (if x152008 = 1 then ((spec_l1In.f x152008 0 3).bind fun t155 => (if t155 = true then (if ((x152008 == 0) == (!x152000)) = true then ((spec_l1In.f x152009 0 4).bind fun t156 => (if t156 = true then (some (x152010 == (x152009 == 0))) else (some false))) else (some false)) else (some false))) else ((spec_l1In.f x152008 0 3).bind fun t157 => (if t157 = true then (if ((x152008 == 0) == (!x152000)) = true then ((spec_l1In.f x152009 0 4).bind fun t158 => (if t158 = true then (if x152008 = 2 then (some (x152010 == (x152009 == 0))) else (some (x152010 == false))) else (some false))) else (some false)) else (some false))))
def spec_PortOk.j1 : Nat → Bool → Bool → Bool → Int → Int → Int → Int → Int → Int → Int → Int → Bool → Option (Bool)
 | 0, _, _, _, _, _, _, _, _, _, _, _, _ => none
 | k + 1, x40, x152000, x152001, x152002, x152003, x152004, x152005, x152006, x152007, x152008, x152009, x152010 => if x40 = true then (some false) else (if x152008 = 1 then ((spec_l1In.f x152008 0 3).bind fun t159 => (if t159 = true then (if ((x152008 == 0) == (!x152000)) = true then ((spec_l1In.f x152009 0 4).bind fun t160 => (if t160 = true then (some (x152010 == (x152009 == 0))) else (some false))) else (some false)) else (some false))) else ((spec_l1In.f x152008 0 3).bind fun t161 => (if t161 = true then (if ((x152008 == 0) == (!x152000)) = true then ((spec_l1In.f x152009 0 4).bind fun t162 => (if t162 = true then (if x152008 = 2 then (some (x152010 == (x152009 == 0))) else (some (x152010 == false))) else (some false))) else (some false)) else (some false))))
end
def spec_PortOk.f (k : Nat) (a0_0 : Bool) (a0_1 : Bool) (a0_2 : Int) (a0_3 : Int) (a0_4 : Int) (a0_5 : Int) (a0_6 : Int) (a0_7 : Int) (a0_8 : Int) (a0_9 : Int) (a0_10 : Bool) : Option (Bool) := if a0_1 = true then (if a0_0 = true then ((spec_VecOk.f a0_2 a0_3 a0_4 a0_5).bind fun t152 => (if t152 = true then ((spec_l1In.f a0_6 0 8).bind fun t153 => (if t153 = true then ((spec_l1In.f a0_7 1 3).bind fun t154 => (spec_PortOk.j0 k (!t154) a0_0 a0_1 a0_2 a0_3 a0_4 a0_5 a0_6 a0_7 a0_8 a0_9 a0_10)) else (spec_PortOk.j0 k true a0_0 a0_1 a0_2 a0_3 a0_4 a0_5 a0_6 a0_7 a0_8 a0_9 a0_10))) else (spec_PortOk.j0 k true a0_0 a0_1 a0_2 a0_3 a0_4 a0_5 a0_6 a0_7 a0_8 a0_9 a0_10))) else (spec_PortOk.j0 k true a0_0 a0_1 a0_2 a0_3 a0_4 a0_5 a0_6 a0_7 a0_8 a0_9 a0_10)) else (if (!(a0_2 == 0) || (!(a0_3 == 0) || (!(a0_4 == 0) || (!(a0_5 == 0))))) = true then (spec_PortOk.j1 k true a0_0 a0_1 a0_2 a0_3 a0_4 a0_5 a0_6 a0_7 a0_8 a0_9 a0_10) else (if a0_6 = 0 then (spec_PortOk.j1 k (a0_7 != 0) a0_0 a0_1 a0_2 a0_3 a0_4 a0_5 a0_6 a0_7 a0_8 a0_9 a0_10) else (spec_PortOk.j1 k true a0_0 a0_1 a0_2 a0_3 a0_4 a0_5 a0_6 a0_7 a0_8 a0_9 a0_10)))
theorem spec_PortOk.mono_l : ∀ k, (∀ y0 y1 y2 y3 y4 y5 y6 y7 y8 y9 y10 y11, LeO (spec_PortOk.j0 k y0 y1 y2 y3 y4 y5 y6 y7 y8 y9 y10 y11) (spec_PortOk.j0 (k + 1) y0 y1 y2 y3 y4 y5 y6 y7 y8 y9 y10 y11)) ∧ (∀ y0 y1 y2 y3 y4 y5 y6 y7 y8 y9 y10 y11, LeO (spec_PortOk.j1 k y0 y1 y2 y3 y4 y5 y6 y7 y8 y9 y10 y11) (spec_PortOk.j1 (k + 1) y0 y1 y2 y3 y4 y5 y6 y7 y8 y9 y10 y11))
 | 0 => ⟨fun _ _ _ _ _ _ _ _ _ _ _ _ r h => by simp [spec_PortOk.j0] at h, fun _ _ _ _ _ _ _ _ _ _ _ _ r h => by simp [spec_PortOk.j1] at h⟩
 | k + 1 => by
  obtain ⟨ih0, ih1⟩ := spec_PortOk.mono_l k
  refine ⟨?_, ?_⟩
  ·intro y0 y1 y2 y3 y4 y5 y6 y7 y8 y9 y10 y11
   unfold spec_PortOk.j0
   repeat' first
   | (with_reducible exact ih0 _ _ _ _ _ _ _ _ _ _ _ _)
   | (with_reducible exact ih1 _ _ _ _ _ _ _ _ _ _ _ _)
   | (with_reducible exact LeO.refl _)
   | (with_reducible exact LeO.none _)
   | (with_reducible refine LeO.ite ?_ ?_)
   | (with_reducible refine LeO.bind ?_ (fun _ => ?_))
   | exact ih0 _ _ _ _ _ _ _ _ _ _ _ _
   | exact ih1 _ _ _ _ _ _ _ _ _ _ _ _
   | exact LeO.none _
   | refine LeO.ite ?_ ?_
   | refine LeO.bind ?_ (fun _ => ?_)
  ·intro y0 y1 y2 y3 y4 y5 y6 y7 y8 y9 y10 y11
   unfold spec_PortOk.j1
   repeat' first
   | (with_reducible exact ih0 _ _ _ _ _ _ _ _ _ _ _ _)
   | (with_reducible exact ih1 _ _ _ _ _ _ _ _ _ _ _ _)
   | (with_reducible exact LeO.refl _)
   | (with_reducible exact LeO.none _)
   | (with_reducible refine LeO.ite ?_ ?_)
   | (with_reducible refine LeO.bind ?_ (fun _ => ?_))
   | exact ih0 _ _ _ _ _ _ _ _ _ _ _ _
   | exact ih1 _ _ _ _ _ _ _ _ _ _ _ _
   | exact LeO.none _
   | refine LeO.ite ?_ ?_
   | refine LeO.bind ?_ (fun _ => ?_)
theorem spec_PortOk.mono : ∀ a0 a1 a2 a3 a4 a5 a6 a7 a8 a9 a10 k, LeO (spec_PortOk.f k a0 a1 a2 a3 a4 a5 a6 a7 a8 a9 a10) (spec_PortOk.f (k + 1) a0 a1 a2 a3 a4 a5 a6 a7 a8 a9 a10) := by
 intro a0 a1 a2 a3 a4 a5 a6 a7 a8 a9 a10 k
 obtain ⟨ih0, ih1⟩ := spec_PortOk.mono_l k
 unfold spec_PortOk.f
 repeat' first
   | (with_reducible exact ih0 _ _ _ _ _ _ _ _ _ _ _ _)
   | (with_reducible exact ih1 _ _ _ _ _ _ _ _ _ _ _ _)
   | (with_reducible exact LeO.refl _)
   | (with_reducible exact LeO.none _)
   | (with_reducible refine LeO.ite ?_ ?_)
   | (with_reducible refine LeO.bind ?_ (fun _ => ?_))
   | exact ih0 _ _ _ _ _ _ _ _ _ _ _ _
   | exact ih1 _ _ _ _ _ _ _ _ _ _ _ _
   | exact LeO.none _
   | refine LeO.ite ?_ ?_
   | refine LeO.bind ?_ (fun _ => ?_)
set_option maxHeartbeats 60000000 in
set_option maxRecDepth 100000 in
theorem spec_PortOk.calls (k : Nat) (a0_0 : Bool) (a0_1 : Bool) (a0_2 : Int) (a0_3 : Int) (a0_4 : Int) (a0_5 : Int) (a0_6 : Int) (a0_7 : Int) (a0_8 : Int) (a0_9 : Int) (a0_10 : Bool) (r : Bool) (w : World) (h : spec_PortOk.f k a0_0 a0_1 a0_2 a0_3 a0_4 a0_5 a0_6 a0_7 a0_8 a0_9 a0_10 = some r) :
  Calls Try.prog 117 #[.agg #[.bool a0_0, .bool a0_1, .int .i64 a0_2, .int .i64 a0_3, .int .i64 a0_4, .int .i64 a0_5, .int .i64 a0_6, .int .i64 a0_7, .int .i64 a0_8, .int .i64 a0_9, .bool a0_10]] w fun e w' => e = .returned (.bool r) ∧ Below w.heap.size w w' := by
 have hu109 := Try.underlying109
 have hu77 := Try.underlying77
 have HB := aM (Below.refl w.heap.size w)
 have H : (if a0_1 = true then (if a0_0 = true then ((spec_VecOk.f a0_2 a0_3 a0_4 a0_5).bind fun t152 => (if t152 = true then ((spec_l1In.f a0_6 0 8).bind fun t153 => (if t153 = true then ((spec_l1In.f a0_7 1 3).bind fun t154 => (spec_PortOk.j0 k (!t154) a0_0 a0_1 a0_2 a0_3 a0_4 a0_5 a0_6 a0_7 a0_8 a0_9 a0_10)) else (spec_PortOk.j0 k true a0_0 a0_1 a0_2 a0_3 a0_4 a0_5 a0_6 a0_7 a0_8 a0_9 a0_10))) else (spec_PortOk.j0 k true a0_0 a0_1 a0_2 a0_3 a0_4 a0_5 a0_6 a0_7 a0_8 a0_9 a0_10))) else (spec_PortOk.j0 k true a0_0 a0_1 a0_2 a0_3 a0_4 a0_5 a0_6 a0_7 a0_8 a0_9 a0_10)) else (if (!(a0_2 == 0) || (!(a0_3 == 0) || (!(a0_4 == 0) || (!(a0_5 == 0))))) = true then (spec_PortOk.j1 k true a0_0 a0_1 a0_2 a0_3 a0_4 a0_5 a0_6 a0_7 a0_8 a0_9 a0_10) else (if a0_6 = 0 then (spec_PortOk.j1 k (a0_7 != 0) a0_0 a0_1 a0_2 a0_3 a0_4 a0_5 a0_6 a0_7 a0_8 a0_9 a0_10) else (spec_PortOk.j1 k true a0_0 a0_1 a0_2 a0_3 a0_4 a0_5 a0_6 a0_7 a0_8 a0_9 a0_10)))) = some r := h
 clear h
 by_cases c2 : a0_1 = true
 case pos =>
  subst c2
  have H1 : (if a0_0 = true then ((spec_VecOk.f a0_2 a0_3 a0_4 a0_5).bind fun t152 => (if t152 = true then ((spec_l1In.f a0_6 0 8).bind fun t153 => (if t153 = true then ((spec_l1In.f a0_7 1 3).bind fun t154 => (spec_PortOk.j0 k (!t154) a0_0 true a0_2 a0_3 a0_4 a0_5 a0_6 a0_7 a0_8 a0_9 a0_10)) else (spec_PortOk.j0 k true a0_0 true a0_2 a0_3 a0_4 a0_5 a0_6 a0_7 a0_8 a0_9 a0_10))) else (spec_PortOk.j0 k true a0_0 true a0_2 a0_3 a0_4 a0_5 a0_6 a0_7 a0_8 a0_9 a0_10))) else (spec_PortOk.j0 k true a0_0 true a0_2 a0_3 a0_4 a0_5 a0_6 a0_7 a0_8 a0_9 a0_10)) = some r := by rw [if_pos rfl] at H; exact H
  clear H
  have H := H1
  clear H1
  have HC3 := aM H
  clear H
  go_enter Try.func117, Try.ntmps117
  go_upto_region 2 with (first | ((with_reducible refine gate_dst (N := 1) rfl ?_); refine box_event ?hg (N := 1) ?hd (cs := #[.bool a0_0, .bool true, .int .i64 a0_2, .int .i64 a0_3, .int .i64 a0_4, .int .i64 a0_5, .int .i64 a0_6, .int .i64 a0_7, .int .i64 a0_8, .int .i64 a0_9, .bool a0_10]) (t := 109) ?hr ?_; (case hd => rfl); (case hg => rfl); (case hr => first | (go_simp; done) | (go_simp; rfl)); intro gb151 hg w4 hbox hb; have n0_ := aM (below_step (by repeat (first | (with_reducible first | exact HB.out | apply below_alloc | apply pw_below_drewN | apply below_drew1) | exact HB.out)) hb); have n1_ := aM (hbox); have n2_ := aM ((by rw [hg]; exact (below_size (by repeat (first | (with_reducible first | exact HB.out | apply below_alloc | apply pw_below_drewN | apply below_drew1) | exact HB.out))) : w.heap.size ≤ gb151)); have n3_ := aM ((by rw [hg]; exact (below_size (by repeat (first | (with_reducible first | exact HB.out | apply below_alloc | apply pw_below_drewN | apply below_drew1) | exact HB.out))) : w.heap.size ≤ gb151)); clear HB; have HB := n0_; have BK151 := n1_; have GW151 := n2_; have GE151 := n3_; clear n0_ n1_ n2_ n3_; clear hb hbox hg; have hcz5_0 : w4.cell? ⟨gb151, 0, none⟩ = some (.bool a0_0) := (blk_cell BK151.out 0).trans rfl; have hcz5_1 : w4.cell? ⟨gb151, 1, none⟩ = some (.bool true) := (blk_cell BK151.out 1).trans rfl; have hcz5_2 : w4.cell? ⟨gb151, 2, none⟩ = some (.int .i64 a0_2) := (blk_cell BK151.out 2).trans rfl; have hcz5_3 : w4.cell? ⟨gb151, 3, none⟩ = some (.int .i64 a0_3) := (blk_cell BK151.out 3).trans rfl; have hcz5_4 : w4.cell? ⟨gb151, 4, none⟩ = some (.int .i64 a0_4) := (blk_cell BK151.out 4).trans rfl; have hcz5_5 : w4.cell? ⟨gb151, 5, none⟩ = some (.int .i64 a0_5) := (blk_cell BK151.out 5).trans rfl; have hcz5_6 : w4.cell? ⟨gb151, 6, none⟩ = some (.int .i64 a0_6) := (blk_cell BK151.out 6).trans rfl; have hcz5_7 : w4.cell? ⟨gb151, 7, none⟩ = some (.int .i64 a0_7) := (blk_cell BK151.out 7).trans rfl; have hcz5_8 : w4.cell? ⟨gb151, 8, none⟩ = some (.int .i64 a0_8) := (blk_cell BK151.out 8).trans rfl; have hcz5_9 : w4.cell? ⟨gb151, 9, none⟩ = some (.int .i64 a0_9) := (blk_cell BK151.out 9).trans rfl; have hcz5_10 : w4.cell? ⟨gb151, 10, none⟩ = some (.bool a0_10) := (blk_cell BK151.out 10).trans rfl; have hfz5_0 := blk_frozen BK151.out 0; have hfz5_1 := blk_frozen BK151.out 1; have hfz5_2 := blk_frozen BK151.out 2; have hfz5_3 := blk_frozen BK151.out 3; have hfz5_4 := blk_frozen BK151.out 4; have hfz5_5 := blk_frozen BK151.out 5; have hfz5_6 := blk_frozen BK151.out 6; have hfz5_7 := blk_frozen BK151.out 7; have hfz5_8 := blk_frozen BK151.out 8; have hfz5_9 := blk_frozen BK151.out 9; have hfz5_10 := blk_frozen BK151.out 10))
  (try simp only [Act.put, sA, sZ, sS])
  go_cut [26] (fun v26 wc => ∃ (kq : Nat) (x26_2 : Bool), v26 = .bool x26_2 ∧ Aside0 (spec_PortOk.j0 kq x26_2 a0_0 true a0_2 a0_3 a0_4 a0_5 a0_6 a0_7 a0_8 a0_9 a0_10 = some r) ∧ Aside0 (kq ≤ k) ∧ Aside0 (wc.heap[gb151]? = some (.cells #[.bool a0_0, .bool true, .int .i64 a0_2, .int .i64 a0_3, .int .i64 a0_4, .int .i64 a0_5, .int .i64 a0_6, .int .i64 a0_7, .int .i64 a0_8, .int .i64 a0_9, .bool a0_10] 109 (0, 0))) ∧ Aside0 (Below w.heap.size w wc))
  case first =>
   have H := HC3.out
   clear HC3
   by_cases c6 : a0_0 = true
   case neg =>
    replace c6 := Bool.eq_false_iff.mpr c6
    subst c6
    have H1 : (spec_PortOk.j0 k true false true a0_2 a0_3 a0_4 a0_5 a0_6 a0_7 a0_8 a0_9 a0_10) = some r := by rw [if_neg (show ¬ (false = true) by decide)] at H; exact H
    clear H
    have H := H1
    clear H1
    have H' := aM H
    clear H
    have hcz20_0 : w4.cell? ⟨gb151, 0, none⟩ = some (.bool false) := (blk_cell BK151.out 0).trans rfl
    have hcz20_1 : w4.cell? ⟨gb151, 1, none⟩ = some (.bool true) := (blk_cell BK151.out 1).trans rfl
    have hcz20_2 : w4.cell? ⟨gb151, 2, none⟩ = some (.int .i64 a0_2) := (blk_cell BK151.out 2).trans rfl
    have hcz20_3 : w4.cell? ⟨gb151, 3, none⟩ = some (.int .i64 a0_3) := (blk_cell BK151.out 3).trans rfl
    have hcz20_4 : w4.cell? ⟨gb151, 4, none⟩ = some (.int .i64 a0_4) := (blk_cell BK151.out 4).trans rfl
    have hcz20_5 : w4.cell? ⟨gb151, 5, none⟩ = some (.int .i64 a0_5) := (blk_cell BK151.out 5).trans rfl
    have hcz20_6 : w4.cell? ⟨gb151, 6, none⟩ = some (.int .i64 a0_6) := (blk_cell BK151.out 6).trans rfl
    have hcz20_7 : w4.cell? ⟨gb151, 7, none⟩ = some (.int .i64 a0_7) := (blk_cell BK151.out 7).trans rfl
    have hcz20_8 : w4.cell? ⟨gb151, 8, none⟩ = some (.int .i64 a0_8) := (blk_cell BK151.out 8).trans rfl
    have hcz20_9 : w4.cell? ⟨gb151, 9, none⟩ = some (.int .i64 a0_9) := (blk_cell BK151.out 9).trans rfl
    have hcz20_10 : w4.cell? ⟨gb151, 10, none⟩ = some (.bool a0_10) := (blk_cell BK151.out 10).trans rfl
    have hfz20_0 := blk_frozen BK151.out 0
    have hfz20_1 := blk_frozen BK151.out 1
    have hfz20_2 := blk_frozen BK151.out 2
    have hfz20_3 := blk_frozen BK151.out 3
    have hfz20_4 := blk_frozen BK151.out 4
    have hfz20_5 := blk_frozen BK151.out 5
    have hfz20_6 := blk_frozen BK151.out 6
    have hfz20_7 := blk_frozen BK151.out 7
    have hfz20_8 := blk_frozen BK151.out 8
    have hfz20_9 := blk_frozen BK151.out 9
    have hfz20_10 := blk_frozen BK151.out 10
    go_wp2
    go_meet
    case rel => exact ⟨_, (true), (by first | rfl | (simp; done) | (simp [*]; done)), H', ⟨by first | omega | exact Nat.le_refl _⟩, ⟨by (with_reducible repeat (first | refine blk_drewN ?_ _ | refine blk_drew ?_ | refine blk_alloc ?_ _)); exact BK151.out⟩, ⟨by repeat (first | (with_reducible first | exact HB.out | apply below_alloc | apply pw_below_drewN | apply below_drew1 | refine below_set ?_ GE151.out) | exact HB.out)⟩⟩
   subst c6
   have H1 : ((spec_VecOk.f a0_2 a0_3 a0_4 a0_5).bind fun t152 => (if t152 = true then ((spec_l1In.f a0_6 0 8).bind fun t153 => (if t153 = true then ((spec_l1In.f a0_7 1 3).bind fun t154 => (spec_PortOk.j0 k (!t154) true true a0_2 a0_3 a0_4 a0_5 a0_6 a0_7 a0_8 a0_9 a0_10)) else (spec_PortOk.j0 k true true true a0_2 a0_3 a0_4 a0_5 a0_6 a0_7 a0_8 a0_9 a0_10))) else (spec_PortOk.j0 k true true true a0_2 a0_3 a0_4 a0_5 a0_6 a0_7 a0_8 a0_9 a0_10))) = some r := by rw [if_pos rfl] at H; exact H
   clear H
   have H := H1
   clear H1
   replace H := Option.bind_eq_some_iff.mp H
   obtain ⟨t152, A70, H⟩ := H
   replace H : (if t152 = true then ((spec_l1In.f a0_6 0 8).bind fun t153 => (if t153 = true then ((spec_l1In.f a0_7 1 3).bind fun t154 => (spec_PortOk.j0 k (!t154) true true a0_2 a0_3 a0_4 a0_5 a0_6 a0_7 a0_8 a0_9 a0_10)) else (spec_PortOk.j0 k true true true a0_2 a0_3 a0_4 a0_5 a0_6 a0_7 a0_8 a0_9 a0_10))) else (spec_PortOk.j0 k true true true a0_2 a0_3 a0_4 a0_5 a0_6 a0_7 a0_8 a0_9 a0_10)) = some r := H
   have A7 := aM A70
   clear A70
   by_cases c8 : t152 = true
   case neg =>
    replace c8 := Bool.eq_false_iff.mpr c8
    subst c8
    have H1 : (spec_PortOk.j0 k true true true a0_2 a0_3 a0_4 a0_5 a0_6 a0_7 a0_8 a0_9 a0_10) = some r := by rw [if_neg (show ¬ (false = true) by decide)] at H; exact H
    clear H
    have H := H1
    clear H1
    have H' := aM H
    clear H
    have hcz18_0 : w4.cell? ⟨gb151, 0, none⟩ = some (.bool true) := (blk_cell BK151.out 0).trans rfl
    have hcz18_1 : w4.cell? ⟨gb151, 1, none⟩ = some (.bool true) := (blk_cell BK151.out 1).trans rfl
    have hcz18_2 : w4.cell? ⟨gb151, 2, none⟩ = some (.int .i64 a0_2) := (blk_cell BK151.out 2).trans rfl
    have hcz18_3 : w4.cell? ⟨gb151, 3, none⟩ = some (.int .i64 a0_3) := (blk_cell BK151.out 3).trans rfl
    have hcz18_4 : w4.cell? ⟨gb151, 4, none⟩ = some (.int .i64 a0_4) := (blk_cell BK151.out 4).trans rfl
    have hcz18_5 : w4.cell? ⟨gb151, 5, none⟩ = some (.int .i64 a0_5) := (blk_cell BK151.out 5).trans rfl
    have hcz18_6 : w4.cell? ⟨gb151, 6, none⟩ = some (.int .i64 a0_6) := (blk_cell BK151.out 6).trans rfl
    have hcz18_7 : w4.cell? ⟨gb151, 7, none⟩ = some (.int .i64 a0_7) := (blk_cell BK151.out 7).trans rfl
    have hcz18_8 : w4.cell? ⟨gb151, 8, none⟩ = some (.int .i64 a0_8) := (blk_cell BK151.out 8).trans rfl
    have hcz18_9 : w4.cell? ⟨gb151, 9, none⟩ = some (.int .i64 a0_9) := (blk_cell BK151.out 9).trans rfl
    have hcz18_10 : w4.cell? ⟨gb151, 10, none⟩ = some (.bool a0_10) := (blk_cell BK151.out 10).trans rfl
    have hfz18_0 := blk_frozen BK151.out 0
    have hfz18_1 := blk_frozen BK151.out 1
    have hfz18_2 := blk_frozen BK151.out 2
    have hfz18_3 := blk_frozen BK151.out 3
    have hfz18_4 := blk_frozen BK151.out 4
    have hfz18_5 := blk_frozen BK151.out 5
    have hfz18_6 := blk_frozen BK151.out 6
    have hfz18_7 := blk_frozen BK151.out 7
    have hfz18_8 := blk_frozen BK151.out 8
    have hfz18_9 := blk_frozen BK151.out 9
    have hfz18_10 := blk_frozen BK151.out 10
    go_wp2_with (first | (go_at_call 125; (with_reducible refine (spec_VecOk.calls a0_2 a0_3 a0_4 a0_5 false _ A7.out).mono ?_); rintro e w19 ⟨rfl, hb⟩; have n0_ := aM (blk_below (g := gb151) (o := .cells #[.bool true, .bool true, .int .i64 a0_2, .int .i64 a0_3, .int .i64 a0_4, .int .i64 a0_5, .int .i64 a0_6, .int .i64 a0_7, .int .i64 a0_8, .int .i64 a0_9, .bool a0_10] 109 (0, 0)) (by (with_reducible repeat (first | refine blk_drewN ?_ _ | refine blk_drew ?_ | refine blk_alloc ?_ _)); exact BK151.out) hb); have n1_ := aM (below_step (by repeat (first | (with_reducible first | exact HB.out | apply below_alloc | apply pw_below_drewN | apply below_drew1 | refine below_set ?_ GE151.out) | exact HB.out)) hb); clear BK151; clear HB; have BK151 := n0_; have HB := n1_; clear n0_ n1_; (try clear hb); (try clear hb2); (try clear hk); (try clear hi)))
    go_meet
    case rel => exact ⟨_, (true), (by first | rfl | (simp; done) | (simp [*]; done)), H', ⟨by first | omega | exact Nat.le_refl _⟩, ⟨by (with_reducible repeat (first | refine blk_drewN ?_ _ | refine blk_drew ?_ | refine blk_alloc ?_ _)); exact BK151.out⟩, ⟨by repeat (first | (with_reducible first | exact HB.out | apply below_alloc | apply pw_below_drewN | apply below_drew1 | refine below_set ?_ GE151.out) | exact HB.out)⟩⟩
   subst c8
   have H1 : ((spec_l1In.f a0_6 0 8).bind fun t153 => (if t153 = true then ((spec_l1In.f a0_7 1 3).bind fun t154 => (spec_PortOk.j0 k (!t154) true true a0_2 a0_3 a0_4 a0_5 a0_6 a0_7 a0_8 a0_9 a0_10)) else (spec_PortOk.j0 k true true true a0_2 a0_3 a0_4 a0_5 a0_6 a0_7 a0_8 a0_9 a0_10))) = some r := by rw [if_pos rfl] at H; exact H
   clear H
   have H := H1
   clear H1
   replace H := Option.bind_eq_some_iff.mp H
   obtain ⟨t153, A90, H⟩ := H
   replace H : (if t153 = true then ((spec_l1In.f a0_7 1 3).bind fun t154 => (spec_PortOk.j0 k (!t154) true true a0_2 a0_3 a0_4 a0_5 a0_6 a0_7 a0_8 a0_9 a0_10)) else (spec_PortOk.j0 k true true true a0_2 a0_3 a0_4 a0_5 a0_6 a0_7 a0_8 a0_9 a0_10)) = some r := H
   have A9 := aM A90
   clear A90
   by_cases c10 : t153 = true
   case neg =>
    replace c10 := Bool.eq_false_iff.mpr c10
    subst c10
    have H1 : (spec_PortOk.j0 k true true true a0_2 a0_3 a0_4 a0_5 a0_6 a0_7 a0_8 a0_9 a0_10) = some r := by rw [if_neg (show ¬ (false = true) by decide)] at H; exact H
    clear H
    have H := H1
    clear H1
    have H' := aM H
    clear H
    have hcz15_0 : w4.cell? ⟨gb151, 0, none⟩ = some (.bool true) := (blk_cell BK151.out 0).trans rfl
    have hcz15_1 : w4.cell? ⟨gb151, 1, none⟩ = some (.bool true) := (blk_cell BK151.out 1).trans rfl
    have hcz15_2 : w4.cell? ⟨gb151, 2, none⟩ = some (.int .i64 a0_2) := (blk_cell BK151.out 2).trans rfl
    have hcz15_3 : w4.cell? ⟨gb151, 3, none⟩ = some (.int .i64 a0_3) := (blk_cell BK151.out 3).trans rfl
    have hcz15_4 : w4.cell? ⟨gb151, 4, none⟩ = some (.int .i64 a0_4) := (blk_cell BK151.out 4).trans rfl
    have hcz15_5 : w4.cell? ⟨gb151, 5, none⟩ = some (.int .i64 a0_5) := (blk_cell BK151.out 5).trans rfl
    have hcz15_6 : w4.cell? ⟨gb151, 6, none⟩ = some (.int .i64 a0_6) := (blk_cell BK151.out 6).trans rfl
    have hcz15_7 : w4.cell? ⟨gb151, 7, none⟩ = some (.int .i64 a0_7) := (blk_cell BK151.out 7).trans rfl
    have hcz15_8 : w4.cell? ⟨gb151, 8, none⟩ = some (.int .i64 a0_8) := (blk_cell BK151.out 8).trans rfl
    have hcz15_9 : w4.cell? ⟨gb151, 9, none⟩ = some (.int .i64 a0_9) := (blk_cell BK151.out 9).trans rfl
    have hcz15_10 : w4.cell? ⟨gb151, 10, none⟩ = some (.bool a0_10) := (blk_cell BK151.out 10).trans rfl
    have hfz15_0 := blk_frozen BK151.out 0
    have hfz15_1 := blk_frozen BK151.out 1
    have hfz15_2 := blk_frozen BK151.out 2
    have hfz15_3 := blk_frozen BK151.out 3
    have hfz15_4 := blk_frozen BK151.out 4
    have hfz15_5 := blk_frozen BK151.out 5
    have hfz15_6 := blk_frozen BK151.out 6
    have hfz15_7 := blk_frozen BK151.out 7
    have hfz15_8 := blk_frozen BK151.out 8
    have hfz15_9 := blk_frozen BK151.out 9
    have hfz15_10 := blk_frozen BK151.out 10
    go_wp2_with (first | (go_at_call 125; (with_reducible refine (spec_VecOk.calls a0_2 a0_3 a0_4 a0_5 true _ A7.out).mono ?_); rintro e w16 ⟨rfl, hb⟩; have n0_ := aM (blk_below (g := gb151) (o := .cells #[.bool true, .bool true, .int .i64 a0_2, .int .i64 a0_3, .int .i64 a0_4, .int .i64 a0_5, .int .i64 a0_6, .int .i64 a0_7, .int .i64 a0_8, .int .i64 a0_9, .bool a0_10] 109 (0, 0)) (by (with_reducible repeat (first | refine blk_drewN ?_ _ | refine blk_drew ?_ | refine blk_alloc ?_ _)); exact BK151.out) hb); have n1_ := aM (below_step (by repeat (first | (with_reducible first | exact HB.out | apply below_alloc | apply pw_below_drewN | apply below_drew1 | refine below_set ?_ GE151.out) | exact HB.out)) hb); clear BK151; clear HB; have BK151 := n0_; have HB := n1_; clear n0_ n1_; (try clear hb); (try clear hb2); (try clear hk); (try clear hi); have hcz17_0 : w16.cell? ⟨gb151, 0, none⟩ = some (.bool true) := (blk_cell BK151.out 0).trans rfl; have hcz17_1 : w16.cell? ⟨gb151, 1, none⟩ = some (.bool true) := (blk_cell BK151.out 1).trans rfl; have hcz17_2 : w16.cell? ⟨gb151, 2, none⟩ = some (.int .i64 a0_2) := (blk_cell BK151.out 2).trans rfl; have hcz17_3 : w16.cell? ⟨gb151, 3, none⟩ = some (.int .i64 a0_3) := (blk_cell BK151.out 3).trans rfl; have hcz17_4 : w16.cell? ⟨gb151, 4, none⟩ = some (.int .i64 a0_4) := (blk_cell BK151.out 4).trans rfl; have hcz17_5 : w16.cell? ⟨gb151, 5, none⟩ = some (.int .i64 a0_5) := (blk_cell BK151.out 5).trans rfl; have hcz17_6 : w16.cell? ⟨gb151, 6, none⟩ = some (.int .i64 a0_6) := (blk_cell BK151.out 6).trans rfl; have hcz17_7 : w16.cell? ⟨gb151, 7, none⟩ = some (.int .i64 a0_7) := (blk_cell BK151.out 7).trans rfl; have hcz17_8 : w16.cell? ⟨gb151, 8, none⟩ = some (.int .i64 a0_8) := (blk_cell BK151.out 8).trans rfl; have hcz17_9 : w16.cell? ⟨gb151, 9, none⟩ = some (.int .i64 a0_9) := (blk_cell BK151.out 9).trans rfl; have hcz17_10 : w16.cell? ⟨gb151, 10, none⟩ = some (.bool a0_10) := (blk_cell BK151.out 10).trans rfl; have hfz17_0 := blk_frozen BK151.out 0; have hfz17_1 := blk_frozen BK151.out 1; have hfz17_2 := blk_frozen BK151.out 2; have hfz17_3 := blk_frozen BK151.out 3; have hfz17_4 := blk_frozen BK151.out 4; have hfz17_5 := blk_frozen BK151.out 5; have hfz17_6 := blk_frozen BK151.out 6; have hfz17_7 := blk_frozen BK151.out 7; have hfz17_8 := blk_frozen BK151.out 8; have hfz17_9 := blk_frozen BK151.out 9; have hfz17_10 := blk_frozen BK151.out 10) | (go_at_call 71; (with_reducible refine (spec_l1In.calls a0_6 0 8 false _ A9.out).mono ?_); rintro e w' ⟨rfl, ⟨nd, rfl⟩⟩))
    go_meet
    case rel => exact ⟨_, (true), (by first | rfl | (simp; done) | (simp [*]; done)), H', ⟨by first | omega | exact Nat.le_refl _⟩, ⟨by (with_reducible repeat (first | refine blk_drewN ?_ _ | refine blk_drew ?_ | refine blk_alloc ?_ _)); exact BK151.out⟩, ⟨by repeat (first | (with_reducible first | exact HB.out | apply below_alloc | apply pw_below_drewN | apply below_drew1 | refine below_set ?_ GE151.out) | exact HB.out)⟩⟩
   subst c10
   have H1 : ((spec_l1In.f a0_7 1 3).bind fun t154 => (spec_PortOk.j0 k (!t154) true true a0_2 a0_3 a0_4 a0_5 a0_6 a0_7 a0_8 a0_9 a0_10)) = some r := by rw [if_pos rfl] at H; exact H
   clear H
   have H := H1
   clear H1
   replace H := Option.bind_eq_some_iff.mp H
   obtain ⟨t154, A110, H⟩ := H
   replace H : (spec_PortOk.j0 k (!t154) true true a0_2 a0_3 a0_4 a0_5 a0_6 a0_7 a0_8 a0_9 a0_10) = some r := H
   have A11 := aM A110
   clear A110
   have H' := aM H
   clear H
   have hcz12_0 : w4.cell? ⟨gb151, 0, none⟩ = some (.bool true) := (blk_cell BK151.out 0).trans rfl
   have hcz12_1 : w4.cell? ⟨gb151, 1, none⟩ = some (.bool true) := (blk_cell BK151.out 1).trans rfl
   have hcz12_2 : w4.cell? ⟨gb151, 2, none⟩ = some (.int .i64 a0_2) := (blk_cell BK151.out 2).trans rfl
   have hcz12_3 : w4.cell? ⟨gb151, 3, none⟩ = some (.int .i64 a0_3) := (blk_cell BK151.out 3).trans rfl
   have hcz12_4 : w4.cell? ⟨gb151, 4, none⟩ = some (.int .i64 a0_4) := (blk_cell BK151.out 4).trans rfl
   have hcz12_5 : w4.cell? ⟨gb151, 5, none⟩ = some (.int .i64 a0_5) := (blk_cell BK151.out 5).trans rfl
   have hcz12_6 : w4.cell? ⟨gb151, 6, none⟩ = some (.int .i64 a0_6) := (blk_cell BK151.out 6).trans rfl
   have hcz12_7 : w4.cell? ⟨gb151, 7, none⟩ = some (.int .i64 a0_7) := (blk_cell BK151.out 7).trans rfl
   have hcz12_8 : w4.cell? ⟨gb151, 8, none⟩ = some (.int .i64 a0_8) := (blk_cell BK151.out 8).trans rfl
   have hcz12_9 : w4.cell? ⟨gb151, 9, none⟩ = some (.int .i64 a0_9) := (blk_cell BK151.out 9).trans rfl
   have hcz12_10 : w4.cell? ⟨gb151, 10, none⟩ = some (.bool a0_10) := (blk_cell BK151.out 10).trans rfl
   have hfz12_0 := blk_frozen BK151.out 0
   have hfz12_1 := blk_frozen BK151.out 1
   have hfz12_2 := blk_frozen BK151.out 2
   have hfz12_3 := blk_frozen BK151.out 3
   have hfz12_4 := blk_frozen BK151.out 4
   have hfz12_5 := blk_frozen BK151.out 5
   have hfz12_6 := blk_frozen BK151.out 6
   have hfz12_7 := blk_frozen BK151.out 7
   have hfz12_8 := blk_frozen BK151.out 8
   have hfz12_9 := blk_frozen BK151.out 9
   have hfz12_10 := blk_frozen BK151.out 10
   go_wp2_with (first | (go_at_call 125; (with_reducible refine (spec_VecOk.calls a0_2 a0_3 a0_4 a0_5 true _ A7.out).mono ?_); rintro e w13 ⟨rfl, hb⟩; have n0_ := aM (blk_below (g := gb151) (o := .cells #[.bool true, .bool true, .int .i64 a0_2, .int .i64 a0_3, .int .i64 a0_4, .int .i64 a0_5, .int .i64 a0_6, .int .i64 a0_7, .int .i64 a0_8, .int .i64 a0_9, .bool a0_10] 109 (0, 0)) (by (with_reducible repeat (first | refine blk_drewN ?_ _ | refine blk_drew ?_ | refine blk_alloc ?_ _)); exact BK151.out) hb); have n1_ := aM (below_step (by repeat (first | (with_reducible first | exact HB.out | apply below_alloc | apply pw_below_drewN | apply below_drew1 | refine below_set ?_ GE151.out) | exact HB.out)) hb); clear BK151; clear HB; have BK151 := n0_; have HB := n1_; clear n0_ n1_; (try clear hb); (try clear hb2); (try clear hk); (try clear hi); have hcz14_0 : w13.cell? ⟨gb151, 0, none⟩ = some (.bool true) := (blk_cell BK151.out 0).trans rfl; have hcz14_1 : w13.cell? ⟨gb151, 1, none⟩ = some (.bool true) := (blk_cell BK151.out 1).trans rfl; have hcz14_2 : w13.cell? ⟨gb151, 2, none⟩ = some (.int .i64 a0_2) := (blk_cell BK151.out 2).trans rfl; have hcz14_3 : w13.cell? ⟨gb151, 3, none⟩ = some (.int .i64 a0_3) := (blk_cell BK151.out 3).trans rfl; have hcz14_4 : w13.cell? ⟨gb151, 4, none⟩ = some (.int .i64 a0_4) := (blk_cell BK151.out 4).trans rfl; have hcz14_5 : w13.cell? ⟨gb151, 5, none⟩ = some (.int .i64 a0_5) := (blk_cell BK151.out 5).trans rfl; have hcz14_6 : w13.cell? ⟨gb151, 6, none⟩ = some (.int .i64 a0_6) := (blk_cell BK151.out 6).trans rfl; have hcz14_7 : w13.cell? ⟨gb151, 7, none⟩ = some (.int .i64 a0_7) := (blk_cell BK151.out 7).trans rfl; have hcz14_8 : w13.cell? ⟨gb151, 8, none⟩ = some (.int .i64 a0_8) := (blk_cell BK151.out 8).trans rfl; have hcz14_9 : w13.cell? ⟨gb151, 9, none⟩ = some (.int .i64 a0_9) := (blk_cell BK151.out 9).trans rfl; have hcz14_10 : w13.cell? ⟨gb151, 10, none⟩ = some (.bool a0_10) := (blk_cell BK151.out 10).trans rfl; have hfz14_0 := blk_frozen BK151.out 0; have hfz14_1 := blk_frozen BK151.out 1; have hfz14_2 := blk_frozen BK151.out 2; have hfz14_3 := blk_frozen BK151.out 3; have hfz14_4 := blk_frozen BK151.out 4; have hfz14_5 := blk_frozen BK151.out 5; have hfz14_6 := blk_frozen BK151.out 6; have hfz14_7 := blk_frozen BK151.out 7; have hfz14_8 := blk_frozen BK151.out 8; have hfz14_9 := blk_frozen BK151.out 9; have hfz14_10 := blk_frozen BK151.out 10) | (go_at_call 71; (with_reducible refine (spec_l1In.calls a0_6 0 8 true _ A9.out).mono ?_); rintro e w' ⟨rfl, ⟨nd, rfl⟩⟩) | (go_at_call 71; (with_reducible refine (spec_l1In.calls a0_7 1 3 t154 _ A11.out).mono ?_); rintro e w' ⟨rfl, ⟨nd, rfl⟩⟩))
   go_meet
   case rel => exact ⟨_, (!t154), (by first | rfl | (simp; done) | (simp [*]; done)), H', ⟨by first | omega | exact Nat.le_refl _⟩, ⟨by (with_reducible repeat (first | refine blk_drewN ?_ _ | refine blk_drew ?_ | refine blk_alloc ?_ _)); exact BK151.out⟩, ⟨by repeat (first | (with_reducible first | exact HB.out | apply below_alloc | apply pw_below_drewN | apply below_drew1 | refine below_set ?_ GE151.out) | exact HB.out)⟩⟩
  case rest =>
   clear HC3
   try clear c1
   try clear c2
   try clear p2
   try clear c6
   try clear c8
   try clear c10
   try clear c11
   try clear hcz12_0
   try clear hcz12_1
   try clear hcz12_10
   try clear hcz12_2
   try clear hcz12_3
   try clear hcz12_4
   try clear hcz12_5
   try clear hcz12_6
   try clear hcz12_7
   try clear hcz12_8
   try clear hcz12_9
   try clear hcz14_0
   try clear hcz14_1
   try clear hcz14_10
   try clear hcz14_2
   try clear hcz14_3
   try clear hcz14_4
   try clear hcz14_5
   try clear hcz14_6
   try clear hcz14_7
   try clear hcz14_8
   try clear hcz14_9
   try clear hcz15_0
   try clear hcz15_1
   try clear hcz15_10
   try clear hcz15_2
   try clear hcz15_3
   try clear hcz15_4
   try clear hcz15_5
   try clear hcz15_6
   try clear hcz15_7
   try clear hcz15_8
   try clear hcz15_9
   try clear hcz17_0
   try clear hcz17_1
   try clear hcz17_10
   try clear hcz17_2
   try clear hcz17_3
   try clear hcz17_4
   try clear hcz17_5
   try clear hcz17_6
   try clear hcz17_7
   try clear hcz17_8
   try clear hcz17_9
   try clear hcz18_0
   try clear hcz18_1
   try clear hcz18_10
   try clear hcz18_2
   try clear hcz18_3
   try clear hcz18_4
   try clear hcz18_5
   try clear hcz18_6
   try clear hcz18_7
   try clear hcz18_8
   try clear hcz18_9
   try clear hcz20_0
   try clear hcz20_1
   try clear hcz20_10
   try clear hcz20_2
   try clear hcz20_3
   try clear hcz20_4
   try clear hcz20_5
   try clear hcz20_6
   try clear hcz20_7
   try clear hcz20_8
   try clear hcz20_9
   try clear hcz5_0
   try clear hcz5_1
   try clear hcz5_10
   try clear hcz5_2
   try clear hcz5_3
   try clear hcz5_4
   try clear hcz5_5
   try clear hcz5_6
   try clear hcz5_7
   try clear hcz5_8
   try clear hcz5_9
   try clear hfz12_0
   try clear hfz12_1
   try clear hfz12_10
   try clear hfz12_2
   try clear hfz12_3
   try clear hfz12_4
   try clear hfz12_5
   try clear hfz12_6
   try clear hfz12_7
   try clear hfz12_8
   try clear hfz12_9
   try clear hfz14_0
   try clear hfz14_1
   try clear hfz14_10
   try clear hfz14_2
   try clear hfz14_3
   try clear hfz14_4
   try clear hfz14_5
   try clear hfz14_6
   try clear hfz14_7
   try clear hfz14_8
   try clear hfz14_9
   try clear hfz15_0
   try clear hfz15_1
   try clear hfz15_10
   try clear hfz15_2
   try clear hfz15_3
   try clear hfz15_4
   try clear hfz15_5
   try clear hfz15_6
   try clear hfz15_7
   try clear hfz15_8
   try clear hfz15_9
   try clear hfz17_0
   try clear hfz17_1
   try clear hfz17_10
   try clear hfz17_2
   try clear hfz17_3
   try clear hfz17_4
   try clear hfz17_5
   try clear hfz17_6
   try clear hfz17_7
   try clear hfz17_8
   try clear hfz17_9
   try clear hfz18_0
   try clear hfz18_1
   try clear hfz18_10
   try clear hfz18_2
   try clear hfz18_3
   try clear hfz18_4
   try clear hfz18_5
   try clear hfz18_6
   try clear hfz18_7
   try clear hfz18_8
   try clear hfz18_9
   try clear hfz20_0
   try clear hfz20_1
   try clear hfz20_10
   try clear hfz20_2
   try clear hfz20_3
   try clear hfz20_4
   try clear hfz20_5
   try clear hfz20_6
   try clear hfz20_7
   try clear hfz20_8
   try clear hfz20_9
   try clear hfz5_0
   try clear hfz5_1
   try clear hfz5_10
   try clear hfz5_2
   try clear hfz5_3
   try clear hfz5_4
   try clear hfz5_5
   try clear hfz5_6
   try clear hfz5_7
   try clear hfz5_8
   try clear hfz5_9
   obtain ⟨kq, x26_2, rfl, HA, HJ2, BK151, HB⟩ := hcut
   cases kq with
   | zero => exact absurd HA.out (by simp [spec_PortOk.j0])
   | succ kj2 =>
    have H := HA.out
    clear HA
    simp only [spec_PortOk.j0] at H
    by_cases c21 : x26_2 = true
    case pos =>
     subst c21
     have H1 : (some false) = some r := by rw [if_pos rfl] at H; exact H
     clear H
     have H := H1
     clear H1
     obtain rfl := Option.some.inj H
     go_wp2
     go_ret
     exact ⟨by first | rfl | (simp [errW_none, errW_some] <;> rfl) | (simp [*, errW_none, errW_some] <;> rfl), by repeat (first | (with_reducible first | exact HB.out | apply below_alloc | apply pw_below_drewN | apply below_drew1 | refine below_set ?_ GE151.out) | exact HB.out)⟩
    replace c21 := Bool.eq_false_iff.mpr c21
    subst c21
    have H1 : (if a0_8 = 1 then ((spec_l1In.f a0_8 0 3).bind fun t155 => (if t155 = true then (if ((a0_8 == 0) == (!a0_0)) = true then ((spec_l1In.f a0_9 0 4).bind fun t156 => (if t156 = true then (some (a0_10 == (a0_9 == 0))) else (some false))) else (some false)) else (some false))) else ((spec_l1In.f a0_8 0 3).bind fun t157 => (if t157 = true then (if ((a0_8 == 0) == (!a0_0)) = true then ((spec_l1In.f a0_9 0 4).bind fun t158 => (if t158 = true then (if a0_8 = 2 then (some (a0_10 == (a0_9 == 0))) else (some (a0_10 == false))) else (some false))) else (some false)) else (some false)))) = some r := by rw [if_neg (show ¬ (false = true) by decide)] at H; exact H
    clear H
    have H := H1
    clear H1
    by_cases c22 : a0_8 = 1
    case pos =>
     rw [if_pos c22] at H
     have c22b0 : (a0_8 == 1) = true := beq_iff_eq.mpr c22
     have c22b1 : (a0_8 != 1) = false := bne_eq_false_iff_eq.mpr c22
     clear c22
     replace H := Option.bind_eq_some_iff.mp H
     obtain ⟨t155, A230, H⟩ := H
     replace H : (if t155 = true then (if ((a0_8 == 0) == (!a0_0)) = true then ((spec_l1In.f a0_9 0 4).bind fun t156 => (if t156 = true then (some (a0_10 == (a0_9 == 0))) else (some false))) else (some false)) else (some false)) = some r := H
     have A23 := aM A230
     clear A230
     by_cases c24 : t155 = true
     case neg =>
      replace c24 := Bool.eq_false_iff.mpr c24
      subst c24
      have H1 : (some false) = some r := by rw [if_neg (show ¬ (false = true) by decide)] at H; exact H
      clear H
      have H := H1
      clear H1
      obtain rfl := Option.some.inj H
      have hcz31_0 : wc.cell? ⟨gb151, 0, none⟩ = some (.bool a0_0) := (blk_cell BK151.out 0).trans rfl
      have hcz31_1 : wc.cell? ⟨gb151, 1, none⟩ = some (.bool true) := (blk_cell BK151.out 1).trans rfl
      have hcz31_2 : wc.cell? ⟨gb151, 2, none⟩ = some (.int .i64 a0_2) := (blk_cell BK151.out 2).trans rfl
      have hcz31_3 : wc.cell? ⟨gb151, 3, none⟩ = some (.int .i64 a0_3) := (blk_cell BK151.out 3).trans rfl
      have hcz31_4 : wc.cell? ⟨gb151, 4, none⟩ = some (.int .i64 a0_4) := (blk_cell BK151.out 4).trans rfl
      have hcz31_5 : wc.cell? ⟨gb151, 5, none⟩ = some (.int .i64 a0_5) := (blk_cell BK151.out 5).trans rfl
      have hcz31_6 : wc.cell? ⟨gb151, 6, none⟩ = some (.int .i64 a0_6) := (blk_cell BK151.out 6).trans rfl
      have hcz31_7 : wc.cell? ⟨gb151, 7, none⟩ = some (.int .i64 a0_7) := (blk_cell BK151.out 7).trans rfl
      have hcz31_8 : wc.cell? ⟨gb151, 8, none⟩ = some (.int .i64 a0_8) := (blk_cell BK151.out 8).trans rfl
      have hcz31_9 : wc.cell? ⟨gb151, 9, none⟩ = some (.int .i64 a0_9) := (blk_cell BK151.out 9).trans rfl
      have hcz31_10 : wc.cell? ⟨gb151, 10, none⟩ = some (.bool a0_10) := (blk_cell BK151.out 10).trans rfl
      have hfz31_0 := blk_frozen BK151.out 0
      have hfz31_1 := blk_frozen BK151.out 1
      have hfz31_2 := blk_frozen BK151.out 2
      have hfz31_3 := blk_frozen BK151.out 3
      have hfz31_4 := blk_frozen BK151.out 4
      have hfz31_5 := blk_frozen BK151.out 5
      have hfz31_6 := blk_frozen BK151.out 6
      have hfz31_7 := blk_frozen BK151.out 7
      have hfz31_8 := blk_frozen BK151.out 8
      have hfz31_9 := blk_frozen BK151.out 9
      have hfz31_10 := blk_frozen BK151.out 10
      go_wp2_with (first | ((with_reducible refine gate_callee (f := 71) rfl ?_); refine goesL_ (some 51) rfl rfl Try.func71 (by kernel_rfl) rfl #[.int .i64 a0_8, .int .i64 0, .int .i64 3] rfl (by (try simp only [List.map_toArray, List.map_cons, List.map_nil]); first | done | rfl | (simp only [List.length_drop, List.length_take]; rfl)) ?_; (with_reducible refine (spec_l1In.calls a0_8 0 3 false _ A23.out).mono ?_); rintro e w' ⟨rfl, ⟨nd, rfl⟩⟩; refine ⟨_, rfl, ?_⟩))
      go_ret
      exact ⟨by first | rfl | (simp [errW_none, errW_some] <;> rfl) | (simp [*, errW_none, errW_some] <;> rfl), by repeat (first | (with_reducible first | exact HB.out | apply below_alloc | apply pw_below_drewN | apply below_drew1 | refine below_set ?_ GE151.out) | exact HB.out)⟩
     subst c24
     have H1 : (if ((a0_8 == 0) == (!a0_0)) = true then ((spec_l1In.f a0_9 0 4).bind fun t156 => (if t156 = true then (some (a0_10 == (a0_9 == 0))) else (some false))) else (some false)) = some r := by rw [if_pos rfl] at H; exact H
     clear H
     have H := H1
     clear H1
     by_cases c25 : ((a0_8 == 0) == (!a0_0)) = true
     case neg =>
      rw [if_neg c25] at H
      have c25b0 : ((a0_8 == 0) == (!a0_0)) = false := by simpa using c25
      (try (have c25b1 : decide ((a0_8 == 0) = (!a0_0)) = false := by simpa using c25))
      (try (have c25b2 : ((a0_8 == 0) == (!a0_0)) = false := by simpa using c25))
      (try (have c25b3 : ¬ ((a0_8 == 0) = (!a0_0)) := by simpa using c25))
      clear c25
      obtain rfl := Option.some.inj H
      have hcz30_0 : wc.cell? ⟨gb151, 0, none⟩ = some (.bool a0_0) := (blk_cell BK151.out 0).trans rfl
      have hcz30_1 : wc.cell? ⟨gb151, 1, none⟩ = some (.bool true) := (blk_cell BK151.out 1).trans rfl
      have hcz30_2 : wc.cell? ⟨gb151, 2, none⟩ = some (.int .i64 a0_2) := (blk_cell BK151.out 2).trans rfl
      have hcz30_3 : wc.cell? ⟨gb151, 3, none⟩ = some (.int .i64 a0_3) := (blk_cell BK151.out 3).trans rfl
      have hcz30_4 : wc.cell? ⟨gb151, 4, none⟩ = some (.int .i64 a0_4) := (blk_cell BK151.out 4).trans rfl
      have hcz30_5 : wc.cell? ⟨gb151, 5, none⟩ = some (.int .i64 a0_5) := (blk_cell BK151.out 5).trans rfl
      have hcz30_6 : wc.cell? ⟨gb151, 6, none⟩ = some (.int .i64 a0_6) := (blk_cell BK151.out 6).trans rfl
      have hcz30_7 : wc.cell? ⟨gb151, 7, none⟩ = some (.int .i64 a0_7) := (blk_cell BK151.out 7).trans rfl
      have hcz30_8 : wc.cell? ⟨gb151, 8, none⟩ = some (.int .i64 a0_8) := (blk_cell BK151.out 8).trans rfl
      have hcz30_9 : wc.cell? ⟨gb151, 9, none⟩ = some (.int .i64 a0_9) := (blk_cell BK151.out 9).trans rfl
      have hcz30_10 : wc.cell? ⟨gb151, 10, none⟩ = some (.bool a0_10) := (blk_cell BK151.out 10).trans rfl
      have hfz30_0 := blk_frozen BK151.out 0
      have hfz30_1 := blk_frozen BK151.out 1
      have hfz30_2 := blk_frozen BK151.out 2
      have hfz30_3 := blk_frozen BK151.out 3
      have hfz30_4 := blk_frozen BK151.out 4
      have hfz30_5 := blk_frozen BK151.out 5
      have hfz30_6 := blk_frozen BK151.out 6
      have hfz30_7 := blk_frozen BK151.out 7
      have hfz30_8 := blk_frozen BK151.out 8
      have hfz30_9 := blk_frozen BK151.out 9
      have hfz30_10 := blk_frozen BK151.out 10
      go_wp2_with (first | ((with_reducible refine gate_callee (f := 71) rfl ?_); refine goesL_ (some 51) rfl rfl Try.func71 (by kernel_rfl) rfl #[.int .i64 a0_8, .int .i64 0, .int .i64 3] rfl (by (try simp only [List.map_toArray, List.map_cons, List.map_nil]); first | done | rfl | (simp only [List.length_drop, List.length_take]; rfl)) ?_; (with_reducible refine (spec_l1In.calls a0_8 0 3 true _ A23.out).mono ?_); rintro e w' ⟨rfl, ⟨nd, rfl⟩⟩; refine ⟨_, rfl, ?_⟩))
      go_ret
      exact ⟨by first | rfl | (simp [errW_none, errW_some] <;> rfl) | (simp [*, errW_none, errW_some] <;> rfl), by repeat (first | (with_reducible first | exact HB.out | apply below_alloc | apply pw_below_drewN | apply below_drew1 | refine below_set ?_ GE151.out) | exact HB.out)⟩
     rw [if_pos c25] at H
     have c25b0 : ((a0_8 == 0) == (!a0_0)) = true := c25
     (try (have c25b1 : decide ((a0_8 == 0) = (!a0_0)) = true := by simpa using c25))
     (try (have c25b2 : ((a0_8 == 0) == (!a0_0)) = true := by simpa using c25))
     clear c25
     replace H := Option.bind_eq_some_iff.mp H
     obtain ⟨t156, A260, H⟩ := H
     replace H : (if t156 = true then (some (a0_10 == (a0_9 == 0))) else (some false)) = some r := H
     have A26 := aM A260
     clear A260
     by_cases c27 : t156 = true
     case pos =>
      subst c27
      have H1 : (some (a0_10 == (a0_9 == 0))) = some r := by rw [if_pos rfl] at H; exact H
      clear H
      have H := H1
      clear H1
      obtain rfl := Option.some.inj H
      have hcz28_0 : wc.cell? ⟨gb151, 0, none⟩ = some (.bool a0_0) := (blk_cell BK151.out 0).trans rfl
      have hcz28_1 : wc.cell? ⟨gb151, 1, none⟩ = some (.bool true) := (blk_cell BK151.out 1).trans rfl
      have hcz28_2 : wc.cell? ⟨gb151, 2, none⟩ = some (.int .i64 a0_2) := (blk_cell BK151.out 2).trans rfl
      have hcz28_3 : wc.cell? ⟨gb151, 3, none⟩ = some (.int .i64 a0_3) := (blk_cell BK151.out 3).trans rfl
      have hcz28_4 : wc.cell? ⟨gb151, 4, none⟩ = some (.int .i64 a0_4) := (blk_cell BK151.out 4).trans rfl
      have hcz28_5 : wc.cell? ⟨gb151, 5, none⟩ = some (.int .i64 a0_5) := (blk_cell BK151.out 5).trans rfl
      have hcz28_6 : wc.cell? ⟨gb151, 6, none⟩ = some (.int .i64 a0_6) := (blk_cell BK151.out 6).trans rfl
      have hcz28_7 : wc.cell? ⟨gb151, 7, none⟩ = some (.int .i64 a0_7) := (blk_cell BK151.out 7).trans rfl
      have hcz28_8 : wc.cell? ⟨gb151, 8, none⟩ = some (.int .i64 a0_8) := (blk_cell BK151.out 8).trans rfl
      have hcz28_9 : wc.cell? ⟨gb151, 9, none⟩ = some (.int .i64 a0_9) := (blk_cell BK151.out 9).trans rfl
      have hcz28_10 : wc.cell? ⟨gb151, 10, none⟩ = some (.bool a0_10) := (blk_cell BK151.out 10).trans rfl
      have hfz28_0 := blk_frozen BK151.out 0
      have hfz28_1 := blk_frozen BK151.out 1
      have hfz28_2 := blk_frozen BK151.out 2
      have hfz28_3 := blk_frozen BK151.out 3
      have hfz28_4 := blk_frozen BK151.out 4
      have hfz28_5 := blk_frozen BK151.out 5
      have hfz28_6 := blk_frozen BK151.out 6
      have hfz28_7 := blk_frozen BK151.out 7
      have hfz28_8 := blk_frozen BK151.out 8
      have hfz28_9 := blk_frozen BK151.out 9
      have hfz28_10 := blk_frozen BK151.out 10
      go_wp2_with (first | ((with_reducible refine gate_callee (f := 71) rfl ?_); refine goesL_ (some 51) rfl rfl Try.func71 (by kernel_rfl) rfl #[.int .i64 a0_8, .int .i64 0, .int .i64 3] rfl (by (try simp only [List.map_toArray, List.map_cons, List.map_nil]); first | done | rfl | (simp only [List.length_drop, List.length_take]; rfl)) ?_; (with_reducible refine (spec_l1In.calls a0_8 0 3 true _ A23.out).mono ?_); rintro e w' ⟨rfl, ⟨nd, rfl⟩⟩; refine ⟨_, rfl, ?_⟩) | (go_at_call 71; (with_reducible refine (spec_l1In.calls a0_9 0 4 true _ A26.out).mono ?_); rintro e w' ⟨rfl, ⟨nd, rfl⟩⟩))
      go_ret
      exact ⟨by first | rfl | (simp [errW_none, errW_some] <;> rfl) | (simp [*, errW_none, errW_some] <;> rfl), by repeat (first | (with_reducible first | exact HB.out | apply below_alloc | apply pw_below_drewN | apply below_drew1 | refine below_set ?_ GE151.out) | exact HB.out)⟩
     replace c27 := Bool.eq_false_iff.mpr c27
     subst c27
     have H1 : (some false) = some r := by rw [if_neg (show ¬ (false = true) by decide)] at H; exact H
     clear H
     have H := H1
     clear H1
     obtain rfl := Option.some.inj H
     have hcz29_0 : wc.cell? ⟨gb151, 0, none⟩ = some (.bool a0_0) := (blk_cell BK151.out 0).trans rfl
     have hcz29_1 : wc.cell? ⟨gb151, 1, none⟩ = some (.bool true) := (blk_cell BK151.out 1).trans rfl
     have hcz29_2 : wc.cell? ⟨gb151, 2, none⟩ = some (.int .i64 a0_2) := (blk_cell BK151.out 2).trans rfl
     have hcz29_3 : wc.cell? ⟨gb151, 3, none⟩ = some (.int .i64 a0_3) := (blk_cell BK151.out 3).trans rfl
     have hcz29_4 : wc.cell? ⟨gb151, 4, none⟩ = some (.int .i64 a0_4) := (blk_cell BK151.out 4).trans rfl
     have hcz29_5 : wc.cell? ⟨gb151, 5, none⟩ = some (.int .i64 a0_5) := (blk_cell BK151.out 5).trans rfl
     have hcz29_6 : wc.cell? ⟨gb151, 6, none⟩ = some (.int .i64 a0_6) := (blk_cell BK151.out 6).trans rfl
     have hcz29_7 : wc.cell? ⟨gb151, 7, none⟩ = some (.int .i64 a0_7) := (blk_cell BK151.out 7).trans rfl
     have hcz29_8 : wc.cell? ⟨gb151, 8, none⟩ = some (.int .i64 a0_8) := (blk_cell BK151.out 8).trans rfl
     have hcz29_9 : wc.cell? ⟨gb151, 9, none⟩ = some (.int .i64 a0_9) := (blk_cell BK151.out 9).trans rfl
     have hcz29_10 : wc.cell? ⟨gb151, 10, none⟩ = some (.bool a0_10) := (blk_cell BK151.out 10).trans rfl
     have hfz29_0 := blk_frozen BK151.out 0
     have hfz29_1 := blk_frozen BK151.out 1
     have hfz29_2 := blk_frozen BK151.out 2
     have hfz29_3 := blk_frozen BK151.out 3
     have hfz29_4 := blk_frozen BK151.out 4
     have hfz29_5 := blk_frozen BK151.out 5
     have hfz29_6 := blk_frozen BK151.out 6
     have hfz29_7 := blk_frozen BK151.out 7
     have hfz29_8 := blk_frozen BK151.out 8
     have hfz29_9 := blk_frozen BK151.out 9
     have hfz29_10 := blk_frozen BK151.out 10
     go_wp2_with (first | ((with_reducible refine gate_callee (f := 71) rfl ?_); refine goesL_ (some 51) rfl rfl Try.func71 (by kernel_rfl) rfl #[.int .i64 a0_8, .int .i64 0, .int .i64 3] rfl (by (try simp only [List.map_toArray, List.map_cons, List.map_nil]); first | done | rfl | (simp only [List.length_drop, List.length_take]; rfl)) ?_; (with_reducible refine (spec_l1In.calls a0_8 0 3 true _ A23.out).mono ?_); rintro e w' ⟨rfl, ⟨nd, rfl⟩⟩; refine ⟨_, rfl, ?_⟩) | (go_at_call 71; (with_reducible refine (spec_l1In.calls a0_9 0 4 false _ A26.out).mono ?_); rintro e w' ⟨rfl, ⟨nd, rfl⟩⟩))
     go_ret
     exact ⟨by first | rfl | (simp [errW_none, errW_some] <;> rfl) | (simp [*, errW_none, errW_some] <;> rfl), by repeat (first | (with_reducible first | exact HB.out | apply below_alloc | apply pw_below_drewN | apply below_drew1 | refine below_set ?_ GE151.out) | exact HB.out)⟩
    rw [if_neg c22] at H
    have c22b0 : (a0_8 == 1) = false := beq_eq_false_iff_ne.mpr c22
    have c22b1 : (a0_8 != 1) = true := bne_iff_ne.mpr c22
    replace H := Option.bind_eq_some_iff.mp H
    obtain ⟨t157, A320, H⟩ := H
    replace H : (if t157 = true then (if ((a0_8 == 0) == (!a0_0)) = true then ((spec_l1In.f a0_9 0 4).bind fun t158 => (if t158 = true then (if a0_8 = 2 then (some (a0_10 == (a0_9 == 0))) else (some (a0_10 == false))) else (some false))) else (some false)) else (some false)) = some r := H
    have A32 := aM A320
    clear A320
    by_cases c33 : t157 = true
    case neg =>
     replace c33 := Bool.eq_false_iff.mpr c33
     subst c33
     have H1 : (some false) = some r := by rw [if_neg (show ¬ (false = true) by decide)] at H; exact H
     clear H
     have H := H1
     clear H1
     obtain rfl := Option.some.inj H
     have hcz42_0 : wc.cell? ⟨gb151, 0, none⟩ = some (.bool a0_0) := (blk_cell BK151.out 0).trans rfl
     have hcz42_1 : wc.cell? ⟨gb151, 1, none⟩ = some (.bool true) := (blk_cell BK151.out 1).trans rfl
     have hcz42_2 : wc.cell? ⟨gb151, 2, none⟩ = some (.int .i64 a0_2) := (blk_cell BK151.out 2).trans rfl
     have hcz42_3 : wc.cell? ⟨gb151, 3, none⟩ = some (.int .i64 a0_3) := (blk_cell BK151.out 3).trans rfl
     have hcz42_4 : wc.cell? ⟨gb151, 4, none⟩ = some (.int .i64 a0_4) := (blk_cell BK151.out 4).trans rfl
     have hcz42_5 : wc.cell? ⟨gb151, 5, none⟩ = some (.int .i64 a0_5) := (blk_cell BK151.out 5).trans rfl
     have hcz42_6 : wc.cell? ⟨gb151, 6, none⟩ = some (.int .i64 a0_6) := (blk_cell BK151.out 6).trans rfl
     have hcz42_7 : wc.cell? ⟨gb151, 7, none⟩ = some (.int .i64 a0_7) := (blk_cell BK151.out 7).trans rfl
     have hcz42_8 : wc.cell? ⟨gb151, 8, none⟩ = some (.int .i64 a0_8) := (blk_cell BK151.out 8).trans rfl
     have hcz42_9 : wc.cell? ⟨gb151, 9, none⟩ = some (.int .i64 a0_9) := (blk_cell BK151.out 9).trans rfl
     have hcz42_10 : wc.cell? ⟨gb151, 10, none⟩ = some (.bool a0_10) := (blk_cell BK151.out 10).trans rfl
     have hfz42_0 := blk_frozen BK151.out 0
     have hfz42_1 := blk_frozen BK151.out 1
     have hfz42_2 := blk_frozen BK151.out 2
     have hfz42_3 := blk_frozen BK151.out 3
     have hfz42_4 := blk_frozen BK151.out 4
     have hfz42_5 := blk_frozen BK151.out 5
     have hfz42_6 := blk_frozen BK151.out 6
     have hfz42_7 := blk_frozen BK151.out 7
     have hfz42_8 := blk_frozen BK151.out 8
     have hfz42_9 := blk_frozen BK151.out 9
     have hfz42_10 := blk_frozen BK151.out 10
     go_wp2_with (first | ((with_reducible refine gate_callee (f := 71) rfl ?_); refine goesL_ (some 51) rfl rfl Try.func71 (by kernel_rfl) rfl #[.int .i64 a0_8, .int .i64 0, .int .i64 3] rfl (by (try simp only [List.map_toArray, List.map_cons, List.map_nil]); first | done | rfl | (simp only [List.length_drop, List.length_take]; rfl)) ?_; (with_reducible refine (spec_l1In.calls a0_8 0 3 false _ A32.out).mono ?_); rintro e w' ⟨rfl, ⟨nd, rfl⟩⟩; refine ⟨_, rfl, ?_⟩))
     go_ret
     exact ⟨by first | rfl | (simp [errW_none, errW_some] <;> rfl) | (simp [*, errW_none, errW_some] <;> rfl), by repeat (first | (with_reducible first | exact HB.out | apply below_alloc | apply pw_below_drewN | apply below_drew1 | refine below_set ?_ GE151.out) | exact HB.out)⟩
    subst c33
    have H1 : (if ((a0_8 == 0) == (!a0_0)) = true then ((spec_l1In.f a0_9 0 4).bind fun t158 => (if t158 = true then (if a0_8 = 2 then (some (a0_10 == (a0_9 == 0))) else (some (a0_10 == false))) else (some false))) else (some false)) = some r := by rw [if_pos rfl] at H; exact H
    clear H
    have H := H1
    clear H1
    by_cases c34 : ((a0_8 == 0) == (!a0_0)) = true
    case neg =>
     rw [if_neg c34] at H
     have c34b0 : ((a0_8 == 0) == (!a0_0)) = false := by simpa using c34
     (try (have c34b1 : decide ((a0_8 == 0) = (!a0_0)) = false := by simpa using c34))
     (try (have c34b2 : ((a0_8 == 0) == (!a0_0)) = false := by simpa using c34))
     (try (have c34b3 : ¬ ((a0_8 == 0) = (!a0_0)) := by simpa using c34))
     clear c34
     obtain rfl := Option.some.inj H
     have hcz41_0 : wc.cell? ⟨gb151, 0, none⟩ = some (.bool a0_0) := (blk_cell BK151.out 0).trans rfl
     have hcz41_1 : wc.cell? ⟨gb151, 1, none⟩ = some (.bool true) := (blk_cell BK151.out 1).trans rfl
     have hcz41_2 : wc.cell? ⟨gb151, 2, none⟩ = some (.int .i64 a0_2) := (blk_cell BK151.out 2).trans rfl
     have hcz41_3 : wc.cell? ⟨gb151, 3, none⟩ = some (.int .i64 a0_3) := (blk_cell BK151.out 3).trans rfl
     have hcz41_4 : wc.cell? ⟨gb151, 4, none⟩ = some (.int .i64 a0_4) := (blk_cell BK151.out 4).trans rfl
     have hcz41_5 : wc.cell? ⟨gb151, 5, none⟩ = some (.int .i64 a0_5) := (blk_cell BK151.out 5).trans rfl
     have hcz41_6 : wc.cell? ⟨gb151, 6, none⟩ = some (.int .i64 a0_6) := (blk_cell BK151.out 6).trans rfl
     have hcz41_7 : wc.cell? ⟨gb151, 7, none⟩ = some (.int .i64 a0_7) := (blk_cell BK151.out 7).trans rfl
     have hcz41_8 : wc.cell? ⟨gb151, 8, none⟩ = some (.int .i64 a0_8) := (blk_cell BK151.out 8).trans rfl
     have hcz41_9 : wc.cell? ⟨gb151, 9, none⟩ = some (.int .i64 a0_9) := (blk_cell BK151.out 9).trans rfl
     have hcz41_10 : wc.cell? ⟨gb151, 10, none⟩ = some (.bool a0_10) := (blk_cell BK151.out 10).trans rfl
     have hfz41_0 := blk_frozen BK151.out 0
     have hfz41_1 := blk_frozen BK151.out 1
     have hfz41_2 := blk_frozen BK151.out 2
     have hfz41_3 := blk_frozen BK151.out 3
     have hfz41_4 := blk_frozen BK151.out 4
     have hfz41_5 := blk_frozen BK151.out 5
     have hfz41_6 := blk_frozen BK151.out 6
     have hfz41_7 := blk_frozen BK151.out 7
     have hfz41_8 := blk_frozen BK151.out 8
     have hfz41_9 := blk_frozen BK151.out 9
     have hfz41_10 := blk_frozen BK151.out 10
     go_wp2_with (first | ((with_reducible refine gate_callee (f := 71) rfl ?_); refine goesL_ (some 51) rfl rfl Try.func71 (by kernel_rfl) rfl #[.int .i64 a0_8, .int .i64 0, .int .i64 3] rfl (by (try simp only [List.map_toArray, List.map_cons, List.map_nil]); first | done | rfl | (simp only [List.length_drop, List.length_take]; rfl)) ?_; (with_reducible refine (spec_l1In.calls a0_8 0 3 true _ A32.out).mono ?_); rintro e w' ⟨rfl, ⟨nd, rfl⟩⟩; refine ⟨_, rfl, ?_⟩))
     go_ret
     exact ⟨by first | rfl | (simp [errW_none, errW_some] <;> rfl) | (simp [*, errW_none, errW_some] <;> rfl), by repeat (first | (with_reducible first | exact HB.out | apply below_alloc | apply pw_below_drewN | apply below_drew1 | refine below_set ?_ GE151.out) | exact HB.out)⟩
    rw [if_pos c34] at H
    have c34b0 : ((a0_8 == 0) == (!a0_0)) = true := c34
    (try (have c34b1 : decide ((a0_8 == 0) = (!a0_0)) = true := by simpa using c34))
    (try (have c34b2 : ((a0_8 == 0) == (!a0_0)) = true := by simpa using c34))
    clear c34
    replace H := Option.bind_eq_some_iff.mp H
    obtain ⟨t158, A350, H⟩ := H
    replace H : (if t158 = true then (if a0_8 = 2 then (some (a0_10 == (a0_9 == 0))) else (some (a0_10 == false))) else (some false)) = some r := H
    have A35 := aM A350
    clear A350
    by_cases c36 : t158 = true
    case neg =>
     replace c36 := Bool.eq_false_iff.mpr c36
     subst c36
     have H1 : (some false) = some r := by rw [if_neg (show ¬ (false = true) by decide)] at H; exact H
     clear H
     have H := H1
     clear H1
     obtain rfl := Option.some.inj H
     have hcz40_0 : wc.cell? ⟨gb151, 0, none⟩ = some (.bool a0_0) := (blk_cell BK151.out 0).trans rfl
     have hcz40_1 : wc.cell? ⟨gb151, 1, none⟩ = some (.bool true) := (blk_cell BK151.out 1).trans rfl
     have hcz40_2 : wc.cell? ⟨gb151, 2, none⟩ = some (.int .i64 a0_2) := (blk_cell BK151.out 2).trans rfl
     have hcz40_3 : wc.cell? ⟨gb151, 3, none⟩ = some (.int .i64 a0_3) := (blk_cell BK151.out 3).trans rfl
     have hcz40_4 : wc.cell? ⟨gb151, 4, none⟩ = some (.int .i64 a0_4) := (blk_cell BK151.out 4).trans rfl
     have hcz40_5 : wc.cell? ⟨gb151, 5, none⟩ = some (.int .i64 a0_5) := (blk_cell BK151.out 5).trans rfl
     have hcz40_6 : wc.cell? ⟨gb151, 6, none⟩ = some (.int .i64 a0_6) := (blk_cell BK151.out 6).trans rfl
     have hcz40_7 : wc.cell? ⟨gb151, 7, none⟩ = some (.int .i64 a0_7) := (blk_cell BK151.out 7).trans rfl
     have hcz40_8 : wc.cell? ⟨gb151, 8, none⟩ = some (.int .i64 a0_8) := (blk_cell BK151.out 8).trans rfl
     have hcz40_9 : wc.cell? ⟨gb151, 9, none⟩ = some (.int .i64 a0_9) := (blk_cell BK151.out 9).trans rfl
     have hcz40_10 : wc.cell? ⟨gb151, 10, none⟩ = some (.bool a0_10) := (blk_cell BK151.out 10).trans rfl
     have hfz40_0 := blk_frozen BK151.out 0
     have hfz40_1 := blk_frozen BK151.out 1
     have hfz40_2 := blk_frozen BK151.out 2
     have hfz40_3 := blk_frozen BK151.out 3
     have hfz40_4 := blk_frozen BK151.out 4
     have hfz40_5 := blk_frozen BK151.out 5
     have hfz40_6 := blk_frozen BK151.out 6
     have hfz40_7 := blk_frozen BK151.out 7
     have hfz40_8 := blk_frozen BK151.out 8
     have hfz40_9 := blk_frozen BK151.out 9
     have hfz40_10 := blk_frozen BK151.out 10
     go_wp2_with (first | ((with_reducible refine gate_callee (f := 71) rfl ?_); refine goesL_ (some 51) rfl rfl Try.func71 (by kernel_rfl) rfl #[.int .i64 a0_8, .int .i64 0, .int .i64 3] rfl (by (try simp only [List.map_toArray, List.map_cons, List.map_nil]); first | done | rfl | (simp only [List.length_drop, List.length_take]; rfl)) ?_; (with_reducible refine (spec_l1In.calls a0_8 0 3 true _ A32.out).mono ?_); rintro e w' ⟨rfl, ⟨nd, rfl⟩⟩; refine ⟨_, rfl, ?_⟩) | (go_at_call 71; (with_reducible refine (spec_l1In.calls a0_9 0 4 false _ A35.out).mono ?_); rintro e w' ⟨rfl, ⟨nd, rfl⟩⟩))
     go_ret
     exact ⟨by first | rfl | (simp [errW_none, errW_some] <;> rfl) | (simp [*, errW_none, errW_some] <;> rfl), by repeat (first | (with_reducible first | exact HB.out | apply below_alloc | apply pw_below_drewN | apply below_drew1 | refine below_set ?_ GE151.out) | exact HB.out)⟩
    subst c36
    have H1 : (if a0_8 = 2 then (some (a0_10 == (a0_9 == 0))) else (some (a0_10 == false))) = some r := by rw [if_pos rfl] at H; exact H
    clear H
    have H := H1
    clear H1
    by_cases c37 : a0_8 = 2
    case neg =>
     rw [if_neg c37] at H
     have c37b0 : (a0_8 == 2) = false := beq_eq_false_iff_ne.mpr c37
     have c37b1 : (a0_8 != 2) = true := bne_iff_ne.mpr c37
     obtain rfl := Option.some.inj H
     have hcz39_0 : wc.cell? ⟨gb151, 0, none⟩ = some (.bool a0_0) := (blk_cell BK151.out 0).trans rfl
     have hcz39_1 : wc.cell? ⟨gb151, 1, none⟩ = some (.bool true) := (blk_cell BK151.out 1).trans rfl
     have hcz39_2 : wc.cell? ⟨gb151, 2, none⟩ = some (.int .i64 a0_2) := (blk_cell BK151.out 2).trans rfl
     have hcz39_3 : wc.cell? ⟨gb151, 3, none⟩ = some (.int .i64 a0_3) := (blk_cell BK151.out 3).trans rfl
     have hcz39_4 : wc.cell? ⟨gb151, 4, none⟩ = some (.int .i64 a0_4) := (blk_cell BK151.out 4).trans rfl
     have hcz39_5 : wc.cell? ⟨gb151, 5, none⟩ = some (.int .i64 a0_5) := (blk_cell BK151.out 5).trans rfl
     have hcz39_6 : wc.cell? ⟨gb151, 6, none⟩ = some (.int .i64 a0_6) := (blk_cell BK151.out 6).trans rfl
     have hcz39_7 : wc.cell? ⟨gb151, 7, none⟩ = some (.int .i64 a0_7) := (blk_cell BK151.out 7).trans rfl
     have hcz39_8 : wc.cell? ⟨gb151, 8, none⟩ = some (.int .i64 a0_8) := (blk_cell BK151.out 8).trans rfl
     have hcz39_9 : wc.cell? ⟨gb151, 9, none⟩ = some (.int .i64 a0_9) := (blk_cell BK151.out 9).trans rfl
     have hcz39_10 : wc.cell? ⟨gb151, 10, none⟩ = some (.bool a0_10) := (blk_cell BK151.out 10).trans rfl
     have hfz39_0 := blk_frozen BK151.out 0
     have hfz39_1 := blk_frozen BK151.out 1
     have hfz39_2 := blk_frozen BK151.out 2
     have hfz39_3 := blk_frozen BK151.out 3
     have hfz39_4 := blk_frozen BK151.out 4
     have hfz39_5 := blk_frozen BK151.out 5
     have hfz39_6 := blk_frozen BK151.out 6
     have hfz39_7 := blk_frozen BK151.out 7
     have hfz39_8 := blk_frozen BK151.out 8
     have hfz39_9 := blk_frozen BK151.out 9
     have hfz39_10 := blk_frozen BK151.out 10
     go_wp2_with (first | ((with_reducible refine gate_callee (f := 71) rfl ?_); refine goesL_ (some 51) rfl rfl Try.func71 (by kernel_rfl) rfl #[.int .i64 a0_8, .int .i64 0, .int .i64 3] rfl (by (try simp only [List.map_toArray, List.map_cons, List.map_nil]); first | done | rfl | (simp only [List.length_drop, List.length_take]; rfl)) ?_; (with_reducible refine (spec_l1In.calls a0_8 0 3 true _ A32.out).mono ?_); rintro e w' ⟨rfl, ⟨nd, rfl⟩⟩; refine ⟨_, rfl, ?_⟩) | (go_at_call 71; (with_reducible refine (spec_l1In.calls a0_9 0 4 true _ A35.out).mono ?_); rintro e w' ⟨rfl, ⟨nd, rfl⟩⟩))
     go_ret
     exact ⟨by first | rfl | (simp [errW_none, errW_some] <;> rfl) | (simp [*, errW_none, errW_some] <;> rfl), by repeat (first | (with_reducible first | exact HB.out | apply below_alloc | apply pw_below_drewN | apply below_drew1 | refine below_set ?_ GE151.out) | exact HB.out)⟩
    rw [if_pos c37] at H
    have c37b0 : (a0_8 == 2) = true := beq_iff_eq.mpr c37
    have c37b1 : (a0_8 != 2) = false := bne_eq_false_iff_eq.mpr c37
    clear c37
    obtain rfl := Option.some.inj H
    have hcz38_0 : wc.cell? ⟨gb151, 0, none⟩ = some (.bool a0_0) := (blk_cell BK151.out 0).trans rfl
    have hcz38_1 : wc.cell? ⟨gb151, 1, none⟩ = some (.bool true) := (blk_cell BK151.out 1).trans rfl
    have hcz38_2 : wc.cell? ⟨gb151, 2, none⟩ = some (.int .i64 a0_2) := (blk_cell BK151.out 2).trans rfl
    have hcz38_3 : wc.cell? ⟨gb151, 3, none⟩ = some (.int .i64 a0_3) := (blk_cell BK151.out 3).trans rfl
    have hcz38_4 : wc.cell? ⟨gb151, 4, none⟩ = some (.int .i64 a0_4) := (blk_cell BK151.out 4).trans rfl
    have hcz38_5 : wc.cell? ⟨gb151, 5, none⟩ = some (.int .i64 a0_5) := (blk_cell BK151.out 5).trans rfl
    have hcz38_6 : wc.cell? ⟨gb151, 6, none⟩ = some (.int .i64 a0_6) := (blk_cell BK151.out 6).trans rfl
    have hcz38_7 : wc.cell? ⟨gb151, 7, none⟩ = some (.int .i64 a0_7) := (blk_cell BK151.out 7).trans rfl
    have hcz38_8 : wc.cell? ⟨gb151, 8, none⟩ = some (.int .i64 a0_8) := (blk_cell BK151.out 8).trans rfl
    have hcz38_9 : wc.cell? ⟨gb151, 9, none⟩ = some (.int .i64 a0_9) := (blk_cell BK151.out 9).trans rfl
    have hcz38_10 : wc.cell? ⟨gb151, 10, none⟩ = some (.bool a0_10) := (blk_cell BK151.out 10).trans rfl
    have hfz38_0 := blk_frozen BK151.out 0
    have hfz38_1 := blk_frozen BK151.out 1
    have hfz38_2 := blk_frozen BK151.out 2
    have hfz38_3 := blk_frozen BK151.out 3
    have hfz38_4 := blk_frozen BK151.out 4
    have hfz38_5 := blk_frozen BK151.out 5
    have hfz38_6 := blk_frozen BK151.out 6
    have hfz38_7 := blk_frozen BK151.out 7
    have hfz38_8 := blk_frozen BK151.out 8
    have hfz38_9 := blk_frozen BK151.out 9
    have hfz38_10 := blk_frozen BK151.out 10
    go_wp2_with (first | ((with_reducible refine gate_callee (f := 71) rfl ?_); refine goesL_ (some 51) rfl rfl Try.func71 (by kernel_rfl) rfl #[.int .i64 a0_8, .int .i64 0, .int .i64 3] rfl (by (try simp only [List.map_toArray, List.map_cons, List.map_nil]); first | done | rfl | (simp only [List.length_drop, List.length_take]; rfl)) ?_; (with_reducible refine (spec_l1In.calls a0_8 0 3 true _ A32.out).mono ?_); rintro e w' ⟨rfl, ⟨nd, rfl⟩⟩; refine ⟨_, rfl, ?_⟩) | (go_at_call 71; (with_reducible refine (spec_l1In.calls a0_9 0 4 true _ A35.out).mono ?_); rintro e w' ⟨rfl, ⟨nd, rfl⟩⟩))
    go_ret
    exact ⟨by first | rfl | (simp [errW_none, errW_some] <;> rfl) | (simp [*, errW_none, errW_some] <;> rfl), by repeat (first | (with_reducible first | exact HB.out | apply below_alloc | apply pw_below_drewN | apply below_drew1 | refine below_set ?_ GE151.out) | exact HB.out)⟩
 replace c2 := Bool.eq_false_iff.mpr c2
 subst c2
 have H1 : (if (!(a0_2 == 0) || (!(a0_3 == 0) || (!(a0_4 == 0) || (!(a0_5 == 0))))) = true then (spec_PortOk.j1 k true a0_0 false a0_2 a0_3 a0_4 a0_5 a0_6 a0_7 a0_8 a0_9 a0_10) else (if a0_6 = 0 then (spec_PortOk.j1 k (a0_7 != 0) a0_0 false a0_2 a0_3 a0_4 a0_5 a0_6 a0_7 a0_8 a0_9 a0_10) else (spec_PortOk.j1 k true a0_0 false a0_2 a0_3 a0_4 a0_5 a0_6 a0_7 a0_8 a0_9 a0_10))) = some r := by rw [if_neg (show ¬ (false = true) by decide)] at H; exact H
 clear H
 have H := H1
 clear H1
 have HC43 := aM H
 clear H
 go_enter Try.func117, Try.ntmps117
 go_upto_region 4 with (first | ((with_reducible refine gate_dst (N := 1) rfl ?_); refine box_event ?hg (N := 1) ?hd (cs := #[.bool a0_0, .bool false, .int .i64 a0_2, .int .i64 a0_3, .int .i64 a0_4, .int .i64 a0_5, .int .i64 a0_6, .int .i64 a0_7, .int .i64 a0_8, .int .i64 a0_9, .bool a0_10]) (t := 109) ?hr ?_; (case hd => rfl); (case hg => rfl); (case hr => first | (go_simp; done) | (go_simp; rfl)); intro gb151 hg w44 hbox hb; have n0_ := aM (below_step (by repeat (first | (with_reducible first | exact HB.out | apply below_alloc | apply pw_below_drewN | apply below_drew1) | exact HB.out)) hb); have n1_ := aM (hbox); have n2_ := aM ((by rw [hg]; exact (below_size (by repeat (first | (with_reducible first | exact HB.out | apply below_alloc | apply pw_below_drewN | apply below_drew1) | exact HB.out))) : w.heap.size ≤ gb151)); have n3_ := aM ((by rw [hg]; exact (below_size (by repeat (first | (with_reducible first | exact HB.out | apply below_alloc | apply pw_below_drewN | apply below_drew1) | exact HB.out))) : w.heap.size ≤ gb151)); clear HB; have HB := n0_; have BK151 := n1_; have GW151 := n2_; have GE151 := n3_; clear n0_ n1_ n2_ n3_; clear hb hbox hg; have hcz45_0 : w44.cell? ⟨gb151, 0, none⟩ = some (.bool a0_0) := (blk_cell BK151.out 0).trans rfl; have hcz45_1 : w44.cell? ⟨gb151, 1, none⟩ = some (.bool false) := (blk_cell BK151.out 1).trans rfl; have hcz45_2 : w44.cell? ⟨gb151, 2, none⟩ = some (.int .i64 a0_2) := (blk_cell BK151.out 2).trans rfl; have hcz45_3 : w44.cell? ⟨gb151, 3, none⟩ = some (.int .i64 a0_3) := (blk_cell BK151.out 3).trans rfl; have hcz45_4 : w44.cell? ⟨gb151, 4, none⟩ = some (.int .i64 a0_4) := (blk_cell BK151.out 4).trans rfl; have hcz45_5 : w44.cell? ⟨gb151, 5, none⟩ = some (.int .i64 a0_5) := (blk_cell BK151.out 5).trans rfl; have hcz45_6 : w44.cell? ⟨gb151, 6, none⟩ = some (.int .i64 a0_6) := (blk_cell BK151.out 6).trans rfl; have hcz45_7 : w44.cell? ⟨gb151, 7, none⟩ = some (.int .i64 a0_7) := (blk_cell BK151.out 7).trans rfl; have hcz45_8 : w44.cell? ⟨gb151, 8, none⟩ = some (.int .i64 a0_8) := (blk_cell BK151.out 8).trans rfl; have hcz45_9 : w44.cell? ⟨gb151, 9, none⟩ = some (.int .i64 a0_9) := (blk_cell BK151.out 9).trans rfl; have hcz45_10 : w44.cell? ⟨gb151, 10, none⟩ = some (.bool a0_10) := (blk_cell BK151.out 10).trans rfl; have hfz45_0 := blk_frozen BK151.out 0; have hfz45_1 := blk_frozen BK151.out 1; have hfz45_2 := blk_frozen BK151.out 2; have hfz45_3 := blk_frozen BK151.out 3; have hfz45_4 := blk_frozen BK151.out 4; have hfz45_5 := blk_frozen BK151.out 5; have hfz45_6 := blk_frozen BK151.out 6; have hfz45_7 := blk_frozen BK151.out 7; have hfz45_8 := blk_frozen BK151.out 8; have hfz45_9 := blk_frozen BK151.out 9; have hfz45_10 := blk_frozen BK151.out 10))
 (try simp only [Act.put, sA, sZ, sS])
 go_cut [40] (fun v40 wc => ∃ (kq : Nat) (x40_42 : Bool), v40 = .bool x40_42 ∧ Aside0 (spec_PortOk.j1 kq x40_42 a0_0 false a0_2 a0_3 a0_4 a0_5 a0_6 a0_7 a0_8 a0_9 a0_10 = some r) ∧ Aside0 (kq ≤ k) ∧ Aside0 (wc.heap[gb151]? = some (.cells #[.bool a0_0, .bool false, .int .i64 a0_2, .int .i64 a0_3, .int .i64 a0_4, .int .i64 a0_5, .int .i64 a0_6, .int .i64 a0_7, .int .i64 a0_8, .int .i64 a0_9, .bool a0_10] 109 (0, 0))) ∧ Aside0 (Below w.heap.size w wc))
 case first =>
  have H := HC43.out
  clear HC43
  by_cases c46 : (!(a0_2 == 0) || (!(a0_3 == 0) || (!(a0_4 == 0) || (!(a0_5 == 0))))) = true
  case pos =>
   rw [if_pos c46] at H
   have c46b0 : (!(a0_2 == 0) || (!(a0_3 == 0) || (!(a0_4 == 0) || (!(a0_5 == 0))))) = true := c46
   clear c46
   (first | rw [c46b0] | (simp only [i64_w, i32_w]; rw [c46b0]) | skip)
   have H' := aM H
   clear H
   have hcz47_0 : w44.cell? ⟨gb151, 0, none⟩ = some (.bool a0_0) := (blk_cell BK151.out 0).trans rfl
   have hcz47_1 : w44.cell? ⟨gb151, 1, none⟩ = some (.bool false) := (blk_cell BK151.out 1).trans rfl
   have hcz47_2 : w44.cell? ⟨gb151, 2, none⟩ = some (.int .i64 a0_2) := (blk_cell BK151.out 2).trans rfl
   have hcz47_3 : w44.cell? ⟨gb151, 3, none⟩ = some (.int .i64 a0_3) := (blk_cell BK151.out 3).trans rfl
   have hcz47_4 : w44.cell? ⟨gb151, 4, none⟩ = some (.int .i64 a0_4) := (blk_cell BK151.out 4).trans rfl
   have hcz47_5 : w44.cell? ⟨gb151, 5, none⟩ = some (.int .i64 a0_5) := (blk_cell BK151.out 5).trans rfl
   have hcz47_6 : w44.cell? ⟨gb151, 6, none⟩ = some (.int .i64 a0_6) := (blk_cell BK151.out 6).trans rfl
   have hcz47_7 : w44.cell? ⟨gb151, 7, none⟩ = some (.int .i64 a0_7) := (blk_cell BK151.out 7).trans rfl
   have hcz47_8 : w44.cell? ⟨gb151, 8, none⟩ = some (.int .i64 a0_8) := (blk_cell BK151.out 8).trans rfl
   have hcz47_9 : w44.cell? ⟨gb151, 9, none⟩ = some (.int .i64 a0_9) := (blk_cell BK151.out 9).trans rfl
   have hcz47_10 : w44.cell? ⟨gb151, 10, none⟩ = some (.bool a0_10) := (blk_cell BK151.out 10).trans rfl
   have hfz47_0 := blk_frozen BK151.out 0
   have hfz47_1 := blk_frozen BK151.out 1
   have hfz47_2 := blk_frozen BK151.out 2
   have hfz47_3 := blk_frozen BK151.out 3
   have hfz47_4 := blk_frozen BK151.out 4
   have hfz47_5 := blk_frozen BK151.out 5
   have hfz47_6 := blk_frozen BK151.out 6
   have hfz47_7 := blk_frozen BK151.out 7
   have hfz47_8 := blk_frozen BK151.out 8
   have hfz47_9 := blk_frozen BK151.out 9
   have hfz47_10 := blk_frozen BK151.out 10
   go_wp2
   go_meet
   case rel => exact ⟨_, (true), (by first | rfl | (simp; done) | (simp [*]; done)), H', ⟨by first | omega | exact Nat.le_refl _⟩, ⟨by (with_reducible repeat (first | refine blk_drewN ?_ _ | refine blk_drew ?_ | refine blk_alloc ?_ _)); exact BK151.out⟩, ⟨by repeat (first | (with_reducible first | exact HB.out | apply below_alloc | apply pw_below_drewN | apply below_drew1 | refine below_set ?_ GE151.out) | exact HB.out)⟩⟩
  rw [if_neg c46] at H
  have c46b0 : (!(a0_2 == 0) || (!(a0_3 == 0) || (!(a0_4 == 0) || (!(a0_5 == 0))))) = false := by simpa using c46
  clear c46
  (first | rw [c46b0] | (simp only [i64_w, i32_w]; rw [c46b0]) | skip)
  by_cases c48 : a0_6 = 0
  case neg =>
   rw [if_neg c48] at H
   have c48b0 : (a0_6 == 0) = false := beq_eq_false_iff_ne.mpr c48
   have c48b1 : (a0_6 != 0) = true := bne_iff_ne.mpr c48
   have H' := aM H
   clear H
   have hcz50_0 : w44.cell? ⟨gb151, 0, none⟩ = some (.bool a0_0) := (blk_cell BK151.out 0).trans rfl
   have hcz50_1 : w44.cell? ⟨gb151, 1, none⟩ = some (.bool false) := (blk_cell BK151.out 1).trans rfl
   have hcz50_2 : w44.cell? ⟨gb151, 2, none⟩ = some (.int .i64 a0_2) := (blk_cell BK151.out 2).trans rfl
   have hcz50_3 : w44.cell? ⟨gb151, 3, none⟩ = some (.int .i64 a0_3) := (blk_cell BK151.out 3).trans rfl
   have hcz50_4 : w44.cell? ⟨gb151, 4, none⟩ = some (.int .i64 a0_4) := (blk_cell BK151.out 4).trans rfl
   have hcz50_5 : w44.cell? ⟨gb151, 5, none⟩ = some (.int .i64 a0_5) := (blk_cell BK151.out 5).trans rfl
   have hcz50_6 : w44.cell? ⟨gb151, 6, none⟩ = some (.int .i64 a0_6) := (blk_cell BK151.out 6).trans rfl
   have hcz50_7 : w44.cell? ⟨gb151, 7, none⟩ = some (.int .i64 a0_7) := (blk_cell BK151.out 7).trans rfl
   have hcz50_8 : w44.cell? ⟨gb151, 8, none⟩ = some (.int .i64 a0_8) := (blk_cell BK151.out 8).trans rfl
   have hcz50_9 : w44.cell? ⟨gb151, 9, none⟩ = some (.int .i64 a0_9) := (blk_cell BK151.out 9).trans rfl
   have hcz50_10 : w44.cell? ⟨gb151, 10, none⟩ = some (.bool a0_10) := (blk_cell BK151.out 10).trans rfl
   have hfz50_0 := blk_frozen BK151.out 0
   have hfz50_1 := blk_frozen BK151.out 1
   have hfz50_2 := blk_frozen BK151.out 2
   have hfz50_3 := blk_frozen BK151.out 3
   have hfz50_4 := blk_frozen BK151.out 4
   have hfz50_5 := blk_frozen BK151.out 5
   have hfz50_6 := blk_frozen BK151.out 6
   have hfz50_7 := blk_frozen BK151.out 7
   have hfz50_8 := blk_frozen BK151.out 8
   have hfz50_9 := blk_frozen BK151.out 9
   have hfz50_10 := blk_frozen BK151.out 10
   go_wp2
   go_meet
   case rel => exact ⟨_, (true), (by first | rfl | (simp; done) | (simp [*]; done)), H', ⟨by first | omega | exact Nat.le_refl _⟩, ⟨by (with_reducible repeat (first | refine blk_drewN ?_ _ | refine blk_drew ?_ | refine blk_alloc ?_ _)); exact BK151.out⟩, ⟨by repeat (first | (with_reducible first | exact HB.out | apply below_alloc | apply pw_below_drewN | apply below_drew1 | refine below_set ?_ GE151.out) | exact HB.out)⟩⟩
  rw [if_pos c48] at H
  have c48b0 : (a0_6 == 0) = true := beq_iff_eq.mpr c48
  have c48b1 : (a0_6 != 0) = false := bne_eq_false_iff_eq.mpr c48
  clear c48
  have H' := aM H
  clear H
  have hcz49_0 : w44.cell? ⟨gb151, 0, none⟩ = some (.bool a0_0) := (blk_cell BK151.out 0).trans rfl
  have hcz49_1 : w44.cell? ⟨gb151, 1, none⟩ = some (.bool false) := (blk_cell BK151.out 1).trans rfl
  have hcz49_2 : w44.cell? ⟨gb151, 2, none⟩ = some (.int .i64 a0_2) := (blk_cell BK151.out 2).trans rfl
  have hcz49_3 : w44.cell? ⟨gb151, 3, none⟩ = some (.int .i64 a0_3) := (blk_cell BK151.out 3).trans rfl
  have hcz49_4 : w44.cell? ⟨gb151, 4, none⟩ = some (.int .i64 a0_4) := (blk_cell BK151.out 4).trans rfl
  have hcz49_5 : w44.cell? ⟨gb151, 5, none⟩ = some (.int .i64 a0_5) := (blk_cell BK151.out 5).trans rfl
  have hcz49_6 : w44.cell? ⟨gb151, 6, none⟩ = some (.int .i64 a0_6) := (blk_cell BK151.out 6).trans rfl
  have hcz49_7 : w44.cell? ⟨gb151, 7, none⟩ = some (.int .i64 a0_7) := (blk_cell BK151.out 7).trans rfl
  have hcz49_8 : w44.cell? ⟨gb151, 8, none⟩ = some (.int .i64 a0_8) := (blk_cell BK151.out 8).trans rfl
  have hcz49_9 : w44.cell? ⟨gb151, 9, none⟩ = some (.int .i64 a0_9) := (blk_cell BK151.out 9).trans rfl
  have hcz49_10 : w44.cell? ⟨gb151, 10, none⟩ = some (.bool a0_10) := (blk_cell BK151.out 10).trans rfl
  have hfz49_0 := blk_frozen BK151.out 0
  have hfz49_1 := blk_frozen BK151.out 1
  have hfz49_2 := blk_frozen BK151.out 2
  have hfz49_3 := blk_frozen BK151.out 3
  have hfz49_4 := blk_frozen BK151.out 4
  have hfz49_5 := blk_frozen BK151.out 5
  have hfz49_6 := blk_frozen BK151.out 6
  have hfz49_7 := blk_frozen BK151.out 7
  have hfz49_8 := blk_frozen BK151.out 8
  have hfz49_9 := blk_frozen BK151.out 9
  have hfz49_10 := blk_frozen BK151.out 10
  go_wp2
  go_meet
  case rel => exact ⟨_, ((a0_7 != 0)), (by first | rfl | (simp; done) | (simp [*]; done)), H', ⟨by first | omega | exact Nat.le_refl _⟩, ⟨by (with_reducible repeat (first | refine blk_drewN ?_ _ | refine blk_drew ?_ | refine blk_alloc ?_ _)); exact BK151.out⟩, ⟨by repeat (first | (with_reducible first | exact HB.out | apply below_alloc | apply pw_below_drewN | apply below_drew1 | refine below_set ?_ GE151.out) | exact HB.out)⟩⟩
 case rest =>
  clear HC43
  try clear c1
  try clear c2
  try clear p2
  try clear c3
  try clear c4
  try clear c7
  try clear c11
  try clear c21
  try clear c22
  try clear c22b0
  try clear c22b1
  try clear c24
  try clear c25
  try clear c25b0
  try clear c25b1
  try clear c25b2
  try clear c27
  try clear c33
  try clear c34
  try clear c34b0
  try clear c34b1
  try clear c34b2
  try clear c36
  try clear c37
  try clear c37b0
  try clear c37b1
  try clear c46
  try clear c46b0
  try clear c48
  try clear c48b0
  try clear c48b1
  try clear hcz17_1
  try clear hcz17_10
  try clear hcz17_2
  try clear hcz17_3
  try clear hcz17_4
  try clear hcz17_5
  try clear hcz17_6
  try clear hcz17_7
  try clear hcz17_8
  try clear hcz17_9
  try clear hcz18_0
  try clear hcz18_1
  try clear hcz18_10
  try clear hcz18_2
  try clear hcz18_3
  try clear hcz18_4
  try clear hcz18_5
  try clear hcz18_6
  try clear hcz18_7
  try clear hcz18_8
  try clear hcz18_9
  try clear hcz20_0
  try clear hcz20_1
  try clear hcz20_10
  try clear hcz20_2
  try clear hcz20_3
  try clear hcz20_4
  try clear hcz20_5
  try clear hcz20_6
  try clear hcz20_7
  try clear hcz20_8
  try clear hcz20_9
  try clear hcz28_0
  try clear hcz28_1
  try clear hcz28_10
  try clear hcz28_2
  try clear hcz28_3
  try clear hcz28_4
  try clear hcz28_5
  try clear hcz28_6
  try clear hcz28_7
  try clear hcz28_8
  try clear hcz28_9
  try clear hcz29_0
  try clear hcz29_1
  try clear hcz29_10
  try clear hcz29_2
  try clear hcz29_3
  try clear hcz29_4
  try clear hcz29_5
  try clear hcz29_6
  try clear hcz29_7
  try clear hcz29_8
  try clear hcz29_9
  try clear hcz30_0
  try clear hcz30_1
  try clear hcz30_10
  try clear hcz30_2
  try clear hcz30_3
  try clear hcz30_4
  try clear hcz30_5
  try clear hcz30_6
  try clear hcz30_7
  try clear hcz30_8
  try clear hcz30_9
  try clear hcz31_0
  try clear hcz31_1
  try clear hcz31_10
  try clear hcz31_2
  try clear hcz31_3
  try clear hcz31_4
  try clear hcz31_5
  try clear hcz31_6
  try clear hcz31_7
  try clear hcz31_8
  try clear hcz31_9
  try clear hcz38_0
  try clear hcz38_1
  try clear hcz38_10
  try clear hcz38_2
  try clear hcz38_3
  try clear hcz38_4
  try clear hcz38_5
  try clear hcz38_6
  try clear hcz38_7
  try clear hcz38_8
  try clear hcz38_9
  try clear hcz39_0
  try clear hcz39_1
  try clear hcz39_10
  try clear hcz39_2
  try clear hcz39_3
  try clear hcz39_4
  try clear hcz39_5
  try clear hcz39_6
  try clear hcz39_7
  try clear hcz39_8
  try clear hcz39_9
  try clear hcz40_0
  try clear hcz40_1
  try clear hcz40_10
  try clear hcz40_2
  try clear hcz40_3
  try clear hcz40_4
  try clear hcz40_5
  try clear hcz40_6
  try clear hcz40_7
  try clear hcz40_8
  try clear hcz40_9
  try clear hcz41_0
  try clear hcz41_1
  try clear hcz41_10
  try clear hcz41_2
  try clear hcz41_3
  try clear hcz41_4
  try clear hcz41_5
  try clear hcz41_6
  try clear hcz41_7
  try clear hcz41_8
  try clear hcz41_9
  try clear hcz42_0
  try clear hcz42_1
  try clear hcz42_10
  try clear hcz42_2
  try clear hcz42_3
  try clear hcz42_4
  try clear hcz42_5
  try clear hcz42_6
  try clear hcz42_7
  try clear hcz42_8
  try clear hcz42_9
  try clear hcz45_0
  try clear hcz45_1
  try clear hcz45_10
  try clear hcz45_2
  try clear hcz45_3
  try clear hcz45_4
  try clear hcz45_5
  try clear hcz45_6
  try clear hcz45_7
  try clear hcz45_8
  try clear hcz45_9
  try clear hcz47_0
  try clear hcz47_1
  try clear hcz47_10
  try clear hcz47_2
  try clear hcz47_3
  try clear hcz47_4
  try clear hcz47_5
  try clear hcz47_6
  try clear hcz47_7
  try clear hcz47_8
  try clear hcz47_9
  try clear hcz49_0
  try clear hcz49_1
  try clear hcz49_10
  try clear hcz49_2
  try clear hcz49_3
  try clear hcz49_4
  try clear hcz49_5
  try clear hcz49_6
  try clear hcz49_7
  try clear hcz49_8
  try clear hcz49_9
  try clear hcz50_0
  try clear hcz50_1
  try clear hcz50_10
  try clear hcz50_2
  try clear hcz50_3
  try clear hcz50_4
  try clear hcz50_5
  try clear hcz50_6
  try clear hcz50_7
  try clear hcz50_8
  try clear hcz50_9
  try clear hcz5_0
  try clear hcz5_1
  try clear hcz5_10
  try clear hcz5_2
  try clear hcz5_3
  try clear hcz5_4
  try clear hcz5_5
  try clear hcz5_6
  try clear hcz5_7
  try clear hcz5_8
  try clear hcz5_9
  try clear hfz12_0
  try clear hfz12_1
  try clear hfz12_10
  try clear hfz12_2
  try clear hfz12_3
  try clear hfz12_4
  try clear hfz12_5
  try clear hfz12_6
  try clear hfz12_7
  try clear hfz12_8
  try clear hfz12_9
  try clear hfz14_0
  try clear hfz14_1
  try clear hfz14_10
  try clear hfz14_2
  try clear hfz14_3
  try clear hfz14_4
  try clear hfz14_5
  try clear hfz14_6
  try clear hfz14_7
  try clear hfz14_8
  try clear hfz14_9
  try clear hfz15_0
  try clear hfz15_1
  try clear hfz15_10
  try clear hfz15_2
  try clear hfz15_3
  try clear hfz15_4
  try clear hfz15_5
  try clear hfz15_6
  try clear hfz15_7
  try clear hfz15_8
  try clear hfz15_9
  try clear hfz17_0
  try clear hfz17_1
  try clear hfz17_10
  try clear hfz17_2
  try clear hfz17_3
  try clear hfz17_4
  try clear hfz17_5
  try clear hfz17_6
  try clear hfz17_7
  try clear hfz17_8
  try clear hfz17_9
  try clear hfz18_0
  try clear hfz18_1
  try clear hfz18_10
  try clear hfz18_2
  try clear hfz18_3
  try clear hfz18_4
  try clear hfz18_5
  try clear hfz18_6
  try clear hfz18_7
  try clear hfz18_8
  try clear hfz18_9
  try clear hfz20_0
  try clear hfz20_1
  try clear hfz20_10
  try clear hfz20_2
  try clear hfz20_3
  try clear hfz20_4
  try clear hfz20_5
  try clear hfz20_6
  try clear hfz20_7
  try clear hfz20_8
  try clear hfz20_9
  try clear hfz28_0
  try clear hfz28_1
  try clear hfz28_10
  try clear hfz28_2
  try clear hfz28_3
  try clear hfz28_4
  try clear hfz28_5
  try clear hfz28_6
  try clear hfz28_7
  try clear hfz28_8
  try clear hfz28_9
  try clear hfz29_0
  try clear hfz29_1
  try clear hfz29_10
  try clear hfz29_2
  try clear hfz29_3
  try clear hfz29_4
  try clear hfz29_5
  try clear hfz29_6
  try clear hfz29_7
  try clear hfz29_8
  try clear hfz29_9
  try clear hfz30_0
  try clear hfz30_1
  try clear hfz30_10
  try clear hfz30_2
  try clear hfz30_3
  try clear hfz30_4
  try clear hfz30_5
  try clear hfz30_6
  try clear hfz30_7
  try clear hfz30_8
  try clear hfz30_9
  try clear hfz31_0
  try clear hfz31_1
  try clear hfz31_10
  try clear hfz31_2
  try clear hfz31_3
  try clear hfz31_4
  try clear hfz31_5
  try clear hfz31_6
  try clear hfz31_7
  try clear hfz31_8
  try clear hfz31_9
  try clear hfz38_0
  try clear hfz38_1
  try clear hfz38_10
  try clear hfz38_2
  try clear hfz38_3
  try clear hfz38_4
  try clear hfz38_5
  try clear hfz38_6
  try clear hfz38_7
  try clear hfz38_8
  try clear hfz38_9
  try clear hfz39_0
  try clear hfz39_1
  try clear hfz39_10
  try clear hfz39_2
  try clear hfz39_3
  try clear hfz39_4
  try clear hfz39_5
  try clear hfz39_6
  try clear hfz39_7
  try clear hfz39_8
  try clear hfz39_9
  try clear hfz40_0
  try clear hfz40_1
  try clear hfz40_10
  try clear hfz40_2
  try clear hfz40_3
  try clear hfz40_4
  try clear hfz40_5
  try clear hfz40_6
  try clear hfz40_7
  try clear hfz40_8
  try clear hfz40_9
  try clear hfz41_0
  try clear hfz41_1
  try clear hfz41_10
  try clear hfz41_2
  try clear hfz41_3
  try clear hfz41_4
  try clear hfz41_5
  try clear hfz41_6
  try clear hfz41_7
  try clear hfz41_8
  try clear hfz41_9
  try clear hfz42_0
  try clear hfz42_1
  try clear hfz42_10
  try clear hfz42_2
  try clear hfz42_3
  try clear hfz42_4
  try clear hfz42_5
  try clear hfz42_6
  try clear hfz42_7
  try clear hfz42_8
  try clear hfz42_9
  try clear hfz45_0
  try clear hfz45_1
  try clear hfz45_10
  try clear hfz45_2
  try clear hfz45_3
  try clear hfz45_4
  try clear hfz45_5
  try clear hfz45_6
  try clear hfz45_7
  try clear hfz45_8
  try clear hfz45_9
  try clear hfz47_0
  try clear hfz47_1
  try clear hfz47_10
  try clear hfz47_2
  try clear hfz47_3
  try clear hfz47_4
  try clear hfz47_5
  try clear hfz47_6
  try clear hfz47_7
  try clear hfz47_8
  try clear hfz47_9
  try clear hfz49_0
  try clear hfz49_1
  try clear hfz49_10
  try clear hfz49_2
  try clear hfz49_3
  try clear hfz49_4
  try clear hfz49_5
  try clear hfz49_6
  try clear hfz49_7
  try clear hfz49_8
  try clear hfz49_9
  try clear hfz50_0
  try clear hfz50_1
  try clear hfz50_10
  try clear hfz50_2
  try clear hfz50_3
  try clear hfz50_4
  try clear hfz50_5
  try clear hfz50_6
  try clear hfz50_7
  try clear hfz50_8
  try clear hfz50_9
  try clear hfz5_0
  try clear hfz5_1
  try clear hfz5_10
  try clear hfz5_2
  try clear hfz5_3
  try clear hfz5_4
  try clear hfz5_5
  try clear hfz5_6
  try clear hfz5_7
  try clear hfz5_8
  try clear hfz5_9
  obtain ⟨kq, x40_42, rfl, HA, HJ42, BK151, HB⟩ := hcut
  cases kq with
  | zero => exact absurd HA.out (by simp [spec_PortOk.j1])
  | succ kj42 =>
   have H := HA.out
   clear HA
   simp only [spec_PortOk.j1] at H
   by_cases c51 : x40_42 = true
   case pos =>
    subst c51
    have H1 : (some false) = some r := by rw [if_pos rfl] at H; exact H
    clear H
    have H := H1
    clear H1
    obtain rfl := Option.some.inj H
    go_wp2
    go_ret
    exact ⟨by first | rfl | (simp [errW_none, errW_some] <;> rfl) | (simp [*, errW_none, errW_some] <;> rfl), by repeat (first | (with_reducible first | exact HB.out | apply below_alloc | apply pw_below_drewN | apply below_drew1 | refine below_set ?_ GE151.out) | exact HB.out)⟩
   replace c51 := Bool.eq_false_iff.mpr c51
   subst c51
   have H1 : (if a0_8 = 1 then ((spec_l1In.f a0_8 0 3).bind fun t159 => (if t159 = true then (if ((a0_8 == 0) == (!a0_0)) = true then ((spec_l1In.f a0_9 0 4).bind fun t160 => (if t160 = true then (some (a0_10 == (a0_9 == 0))) else (some false))) else (some false)) else (some false))) else ((spec_l1In.f a0_8 0 3).bind fun t161 => (if t161 = true then (if ((a0_8 == 0) == (!a0_0)) = true then ((spec_l1In.f a0_9 0 4).bind fun t162 => (if t162 = true then (if a0_8 = 2 then (some (a0_10 == (a0_9 == 0))) else (some (a0_10 == false))) else (some false))) else (some false)) else (some false)))) = some r := by rw [if_neg (show ¬ (false = true) by decide)] at H; exact H
   clear H
   have H := H1
   clear H1
   by_cases c52 : a0_8 = 1
   case pos =>
    rw [if_pos c52] at H
    have c52b0 : (a0_8 == 1) = true := beq_iff_eq.mpr c52
    have c52b1 : (a0_8 != 1) = false := bne_eq_false_iff_eq.mpr c52
    clear c52
    replace H := Option.bind_eq_some_iff.mp H
    obtain ⟨t159, A530, H⟩ := H
    replace H : (if t159 = true then (if ((a0_8 == 0) == (!a0_0)) = true then ((spec_l1In.f a0_9 0 4).bind fun t160 => (if t160 = true then (some (a0_10 == (a0_9 == 0))) else (some false))) else (some false)) else (some false)) = some r := H
    have A53 := aM A530
    clear A530
    by_cases c54 : t159 = true
    case neg =>
     replace c54 := Bool.eq_false_iff.mpr c54
     subst c54
     have H1 : (some false) = some r := by rw [if_neg (show ¬ (false = true) by decide)] at H; exact H
     clear H
     have H := H1
     clear H1
     obtain rfl := Option.some.inj H
     have hcz61_0 : wc.cell? ⟨gb151, 0, none⟩ = some (.bool a0_0) := (blk_cell BK151.out 0).trans rfl
     have hcz61_1 : wc.cell? ⟨gb151, 1, none⟩ = some (.bool false) := (blk_cell BK151.out 1).trans rfl
     have hcz61_2 : wc.cell? ⟨gb151, 2, none⟩ = some (.int .i64 a0_2) := (blk_cell BK151.out 2).trans rfl
     have hcz61_3 : wc.cell? ⟨gb151, 3, none⟩ = some (.int .i64 a0_3) := (blk_cell BK151.out 3).trans rfl
     have hcz61_4 : wc.cell? ⟨gb151, 4, none⟩ = some (.int .i64 a0_4) := (blk_cell BK151.out 4).trans rfl
     have hcz61_5 : wc.cell? ⟨gb151, 5, none⟩ = some (.int .i64 a0_5) := (blk_cell BK151.out 5).trans rfl
     have hcz61_6 : wc.cell? ⟨gb151, 6, none⟩ = some (.int .i64 a0_6) := (blk_cell BK151.out 6).trans rfl
     have hcz61_7 : wc.cell? ⟨gb151, 7, none⟩ = some (.int .i64 a0_7) := (blk_cell BK151.out 7).trans rfl
     have hcz61_8 : wc.cell? ⟨gb151, 8, none⟩ = some (.int .i64 a0_8) := (blk_cell BK151.out 8).trans rfl
     have hcz61_9 : wc.cell? ⟨gb151, 9, none⟩ = some (.int .i64 a0_9) := (blk_cell BK151.out 9).trans rfl
     have hcz61_10 : wc.cell? ⟨gb151, 10, none⟩ = some (.bool a0_10) := (blk_cell BK151.out 10).trans rfl
     have hfz61_0 := blk_frozen BK151.out 0
     have hfz61_1 := blk_frozen BK151.out 1
     have hfz61_2 := blk_frozen BK151.out 2
     have hfz61_3 := blk_frozen BK151.out 3
     have hfz61_4 := blk_frozen BK151.out 4
     have hfz61_5 := blk_frozen BK151.out 5
     have hfz61_6 := blk_frozen BK151.out 6
     have hfz61_7 := blk_frozen BK151.out 7
     have hfz61_8 := blk_frozen BK151.out 8
     have hfz61_9 := blk_frozen BK151.out 9
     have hfz61_10 := blk_frozen BK151.out 10
     go_wp2_with (first | ((with_reducible refine gate_callee (f := 71) rfl ?_); refine goesL_ (some 51) rfl rfl Try.func71 (by kernel_rfl) rfl #[.int .i64 a0_8, .int .i64 0, .int .i64 3] rfl (by (try simp only [List.map_toArray, List.map_cons, List.map_nil]); first | done | rfl | (simp only [List.length_drop, List.length_take]; rfl)) ?_; (with_reducible refine (spec_l1In.calls a0_8 0 3 false _ A53.out).mono ?_); rintro e w' ⟨rfl, ⟨nd, rfl⟩⟩; refine ⟨_, rfl, ?_⟩))
     go_ret
     exact ⟨by first | rfl | (simp [errW_none, errW_some] <;> rfl) | (simp [*, errW_none, errW_some] <;> rfl), by repeat (first | (with_reducible first | exact HB.out | apply below_alloc | apply pw_below_drewN | apply below_drew1 | refine below_set ?_ GE151.out) | exact HB.out)⟩
    subst c54
    have H1 : (if ((a0_8 == 0) == (!a0_0)) = true then ((spec_l1In.f a0_9 0 4).bind fun t160 => (if t160 = true then (some (a0_10 == (a0_9 == 0))) else (some false))) else (some false)) = some r := by rw [if_pos rfl] at H; exact H
    clear H
    have H := H1
    clear H1
    by_cases c55 : ((a0_8 == 0) == (!a0_0)) = true
    case neg =>
     rw [if_neg c55] at H
     have c55b0 : ((a0_8 == 0) == (!a0_0)) = false := by simpa using c55
     (try (have c55b1 : decide ((a0_8 == 0) = (!a0_0)) = false := by simpa using c55))
     (try (have c55b2 : ((a0_8 == 0) == (!a0_0)) = false := by simpa using c55))
     (try (have c55b3 : ¬ ((a0_8 == 0) = (!a0_0)) := by simpa using c55))
     clear c55
     obtain rfl := Option.some.inj H
     have hcz60_0 : wc.cell? ⟨gb151, 0, none⟩ = some (.bool a0_0) := (blk_cell BK151.out 0).trans rfl
     have hcz60_1 : wc.cell? ⟨gb151, 1, none⟩ = some (.bool false) := (blk_cell BK151.out 1).trans rfl
     have hcz60_2 : wc.cell? ⟨gb151, 2, none⟩ = some (.int .i64 a0_2) := (blk_cell BK151.out 2).trans rfl
     have hcz60_3 : wc.cell? ⟨gb151, 3, none⟩ = some (.int .i64 a0_3) := (blk_cell BK151.out 3).trans rfl
     have hcz60_4 : wc.cell? ⟨gb151, 4, none⟩ = some (.int .i64 a0_4) := (blk_cell BK151.out 4).trans rfl
     have hcz60_5 : wc.cell? ⟨gb151, 5, none⟩ = some (.int .i64 a0_5) := (blk_cell BK151.out 5).trans rfl
     have hcz60_6 : wc.cell? ⟨gb151, 6, none⟩ = some (.int .i64 a0_6) := (blk_cell BK151.out 6).trans rfl
     have hcz60_7 : wc.cell? ⟨gb151, 7, none⟩ = some (.int .i64 a0_7) := (blk_cell BK151.out 7).trans rfl
     have hcz60_8 : wc.cell? ⟨gb151, 8, none⟩ = some (.int .i64 a0_8) := (blk_cell BK151.out 8).trans rfl
     have hcz60_9 : wc.cell? ⟨gb151, 9, none⟩ = some (.int .i64 a0_9) := (blk_cell BK151.out 9).trans rfl
     have hcz60_10 : wc.cell? ⟨gb151, 10, none⟩ = some (.bool a0_10) := (blk_cell BK151.out 10).trans rfl
     have hfz60_0 := blk_frozen BK151.out 0
     have hfz60_1 := blk_frozen BK151.out 1
     have hfz60_2 := blk_frozen BK151.out 2
     have hfz60_3 := blk_frozen BK151.out 3
     have hfz60_4 := blk_frozen BK151.out 4
     have hfz60_5 := blk_frozen BK151.out 5
     have hfz60_6 := blk_frozen BK151.out 6
     have hfz60_7 := blk_frozen BK151.out 7
     have hfz60_8 := blk_frozen BK151.out 8
     have hfz60_9 := blk_frozen BK151.out 9
     have hfz60_10 := blk_frozen BK151.out 10
     go_wp2_with (first | ((with_reducible refine gate_callee (f := 71) rfl ?_); refine goesL_ (some 51) rfl rfl Try.func71 (by kernel_rfl) rfl #[.int .i64 a0_8, .int .i64 0, .int .i64 3] rfl (by (try simp only [List.map_toArray, List.map_cons, List.map_nil]); first | done | rfl | (simp only [List.length_drop, List.length_take]; rfl)) ?_; (with_reducible refine (spec_l1In.calls a0_8 0 3 true _ A53.out).mono ?_); rintro e w' ⟨rfl, ⟨nd, rfl⟩⟩; refine ⟨_, rfl, ?_⟩))
     go_ret
     exact ⟨by first | rfl | (simp [errW_none, errW_some] <;> rfl) | (simp [*, errW_none, errW_some] <;> rfl), by repeat (first | (with_reducible first | exact HB.out | apply below_alloc | apply pw_below_drewN | apply below_drew1 | refine below_set ?_ GE151.out) | exact HB.out)⟩
    rw [if_pos c55] at H
    have c55b0 : ((a0_8 == 0) == (!a0_0)) = true := c55
    (try (have c55b1 : decide ((a0_8 == 0) = (!a0_0)) = true := by simpa using c55))
    (try (have c55b2 : ((a0_8 == 0) == (!a0_0)) = true := by simpa using c55))
    clear c55
    replace H := Option.bind_eq_some_iff.mp H
    obtain ⟨t160, A560, H⟩ := H
    replace H : (if t160 = true then (some (a0_10 == (a0_9 == 0))) else (some false)) = some r := H
    have A56 := aM A560
    clear A560
    by_cases c57 : t160 = true
    case pos =>
     subst c57
     have H1 : (some (a0_10 == (a0_9 == 0))) = some r := by rw [if_pos rfl] at H; exact H
     clear H
     have H := H1
     clear H1
     obtain rfl := Option.some.inj H
     have hcz58_0 : wc.cell? ⟨gb151, 0, none⟩ = some (.bool a0_0) := (blk_cell BK151.out 0).trans rfl
     have hcz58_1 : wc.cell? ⟨gb151, 1, none⟩ = some (.bool false) := (blk_cell BK151.out 1).trans rfl
     have hcz58_2 : wc.cell? ⟨gb151, 2, none⟩ = some (.int .i64 a0_2) := (blk_cell BK151.out 2).trans rfl
     have hcz58_3 : wc.cell? ⟨gb151, 3, none⟩ = some (.int .i64 a0_3) := (blk_cell BK151.out 3).trans rfl
     have hcz58_4 : wc.cell? ⟨gb151, 4, none⟩ = some (.int .i64 a0_4) := (blk_cell BK151.out 4).trans rfl
     have hcz58_5 : wc.cell? ⟨gb151, 5, none⟩ = some (.int .i64 a0_5) := (blk_cell BK151.out 5).trans rfl
     have hcz58_6 : wc.cell? ⟨gb151, 6, none⟩ = some (.int .i64 a0_6) := (blk_cell BK151.out 6).trans rfl
     have hcz58_7 : wc.cell? ⟨gb151, 7, none⟩ = some (.int .i64 a0_7) := (blk_cell BK151.out 7).trans rfl
     have hcz58_8 : wc.cell? ⟨gb151, 8, none⟩ = some (.int .i64 a0_8) := (blk_cell BK151.out 8).trans rfl
     have hcz58_9 : wc.cell? ⟨gb151, 9, none⟩ = some (.int .i64 a0_9) := (blk_cell BK151.out 9).trans rfl
     have hcz58_10 : wc.cell? ⟨gb151, 10, none⟩ = some (.bool a0_10) := (blk_cell BK151.out 10).trans rfl
     have hfz58_0 := blk_frozen BK151.out 0
     have hfz58_1 := blk_frozen BK151.out 1
     have hfz58_2 := blk_frozen BK151.out 2
     have hfz58_3 := blk_frozen BK151.out 3
     have hfz58_4 := blk_frozen BK151.out 4
     have hfz58_5 := blk_frozen BK151.out 5
     have hfz58_6 := blk_frozen BK151.out 6
     have hfz58_7 := blk_frozen BK151.out 7
     have hfz58_8 := blk_frozen BK151.out 8
     have hfz58_9 := blk_frozen BK151.out 9
     have hfz58_10 := blk_frozen BK151.out 10
     go_wp2_with (first | ((with_reducible refine gate_callee (f := 71) rfl ?_); refine goesL_ (some 51) rfl rfl Try.func71 (by kernel_rfl) rfl #[.int .i64 a0_8, .int .i64 0, .int .i64 3] rfl (by (try simp only [List.map_toArray, List.map_cons, List.map_nil]); first | done | rfl | (simp only [List.length_drop, List.length_take]; rfl)) ?_; (with_reducible refine (spec_l1In.calls a0_8 0 3 true _ A53.out).mono ?_); rintro e w' ⟨rfl, ⟨nd, rfl⟩⟩; refine ⟨_, rfl, ?_⟩) | (go_at_call 71; (with_reducible refine (spec_l1In.calls a0_9 0 4 true _ A56.out).mono ?_); rintro e w' ⟨rfl, ⟨nd, rfl⟩⟩))
     go_ret
     exact ⟨by first | rfl | (simp [errW_none, errW_some] <;> rfl) | (simp [*, errW_none, errW_some] <;> rfl), by repeat (first | (with_reducible first | exact HB.out | apply below_alloc | apply pw_below_drewN | apply below_drew1 | refine below_set ?_ GE151.out) | exact HB.out)⟩
    replace c57 := Bool.eq_false_iff.mpr c57
    subst c57
    have H1 : (some false) = some r := by rw [if_neg (show ¬ (false = true) by decide)] at H; exact H
    clear H
    have H := H1
    clear H1
    obtain rfl := Option.some.inj H
    have hcz59_0 : wc.cell? ⟨gb151, 0, none⟩ = some (.bool a0_0) := (blk_cell BK151.out 0).trans rfl
    have hcz59_1 : wc.cell? ⟨gb151, 1, none⟩ = some (.bool false) := (blk_cell BK151.out 1).trans rfl
    have hcz59_2 : wc.cell? ⟨gb151, 2, none⟩ = some (.int .i64 a0_2) := (blk_cell BK151.out 2).trans rfl
    have hcz59_3 : wc.cell? ⟨gb151, 3, none⟩ = some (.int .i64 a0_3) := (blk_cell BK151.out 3).trans rfl
    have hcz59_4 : wc.cell? ⟨gb151, 4, none⟩ = some (.int .i64 a0_4) := (blk_cell BK151.out 4).trans rfl
    have hcz59_5 : wc.cell? ⟨gb151, 5, none⟩ = some (.int .i64 a0_5) := (blk_cell BK151.out 5).trans rfl
    have hcz59_6 : wc.cell? ⟨gb151, 6, none⟩ = some (.int .i64 a0_6) := (blk_cell BK151.out 6).trans rfl
    have hcz59_7 : wc.cell? ⟨gb151, 7, none⟩ = some (.int .i64 a0_7) := (blk_cell BK151.out 7).trans rfl
    have hcz59_8 : wc.cell? ⟨gb151, 8, none⟩ = some (.int .i64 a0_8) := (blk_cell BK151.out 8).trans rfl
    have hcz59_9 : wc.cell? ⟨gb151, 9, none⟩ = some (.int .i64 a0_9) := (blk_cell BK151.out 9).trans rfl
    have hcz59_10 : wc.cell? ⟨gb151, 10, none⟩ = some (.bool a0_10) := (blk_cell BK151.out 10).trans rfl
    have hfz59_0 := blk_frozen BK151.out 0
    have hfz59_1 := blk_frozen BK151.out 1
    have hfz59_2 := blk_frozen BK151.out 2
    have hfz59_3 := blk_frozen BK151.out 3
    have hfz59_4 := blk_frozen BK151.out 4
    have hfz59_5 := blk_frozen BK151.out 5
    have hfz59_6 := blk_frozen BK151.out 6
    have hfz59_7 := blk_frozen BK151.out 7
    have hfz59_8 := blk_frozen BK151.out 8
    have hfz59_9 := blk_frozen BK151.out 9
    have hfz59_10 := blk_frozen BK151.out 10
    go_wp2_with (first | ((with_reducible refine gate_callee (f := 71) rfl ?_); refine goesL_ (some 51) rfl rfl Try.func71 (by kernel_rfl) rfl #[.int .i64 a0_8, .int .i64 0, .int .i64 3] rfl (by (try simp only [List.map_toArray, List.map_cons, List.map_nil]); first | done | rfl | (simp only [List.length_drop, List.length_take]; rfl)) ?_; (with_reducible refine (spec_l1In.calls a0_8 0 3 true _ A53.out).mono ?_); rintro e w' ⟨rfl, ⟨nd, rfl⟩⟩; refine ⟨_, rfl, ?_⟩) | (go_at_call 71; (with_reducible refine (spec_l1In.calls a0_9 0 4 false _ A56.out).mono ?_); rintro e w' ⟨rfl, ⟨nd, rfl⟩⟩))
    go_ret
    exact ⟨by first | rfl | (simp [errW_none, errW_some] <;> rfl) | (simp [*, errW_none, errW_some] <;> rfl), by repeat (first | (with_reducible first | exact HB.out | apply below_alloc | apply pw_below_drewN | apply below_drew1 | refine below_set ?_ GE151.out) | exact HB.out)⟩
   rw [if_neg c52] at H
   have c52b0 : (a0_8 == 1) = false := beq_eq_false_iff_ne.mpr c52
   have c52b1 : (a0_8 != 1) = true := bne_iff_ne.mpr c52
   replace H := Option.bind_eq_some_iff.mp H
   obtain ⟨t161, A620, H⟩ := H
   replace H : (if t161 = true then (if ((a0_8 == 0) == (!a0_0)) = true then ((spec_l1In.f a0_9 0 4).bind fun t162 => (if t162 = true then (if a0_8 = 2 then (some (a0_10 == (a0_9 == 0))) else (some (a0_10 == false))) else (some false))) else (some false)) else (some false)) = some r := H
   have A62 := aM A620
   clear A620
   by_cases c63 : t161 = true
   case neg =>
    replace c63 := Bool.eq_false_iff.mpr c63
    subst c63
    have H1 : (some false) = some r := by rw [if_neg (show ¬ (false = true) by decide)] at H; exact H
    clear H
    have H := H1
    clear H1
    obtain rfl := Option.some.inj H
    have hcz72_0 : wc.cell? ⟨gb151, 0, none⟩ = some (.bool a0_0) := (blk_cell BK151.out 0).trans rfl
    have hcz72_1 : wc.cell? ⟨gb151, 1, none⟩ = some (.bool false) := (blk_cell BK151.out 1).trans rfl
    have hcz72_2 : wc.cell? ⟨gb151, 2, none⟩ = some (.int .i64 a0_2) := (blk_cell BK151.out 2).trans rfl
    have hcz72_3 : wc.cell? ⟨gb151, 3, none⟩ = some (.int .i64 a0_3) := (blk_cell BK151.out 3).trans rfl
    have hcz72_4 : wc.cell? ⟨gb151, 4, none⟩ = some (.int .i64 a0_4) := (blk_cell BK151.out 4).trans rfl
    have hcz72_5 : wc.cell? ⟨gb151, 5, none⟩ = some (.int .i64 a0_5) := (blk_cell BK151.out 5).trans rfl
    have hcz72_6 : wc.cell? ⟨gb151, 6, none⟩ = some (.int .i64 a0_6) := (blk_cell BK151.out 6).trans rfl
    have hcz72_7 : wc.cell? ⟨gb151, 7, none⟩ = some (.int .i64 a0_7) := (blk_cell BK151.out 7).trans rfl
    have hcz72_8 : wc.cell? ⟨gb151, 8, none⟩ = some (.int .i64 a0_8) := (blk_cell BK151.out 8).trans rfl
    have hcz72_9 : wc.cell? ⟨gb151, 9, none⟩ = some (.int .i64 a0_9) := (blk_cell BK151.out 9).trans rfl
    have hcz72_10 : wc.cell? ⟨gb151, 10, none⟩ = some (.bool a0_10) := (blk_cell BK151.out 10).trans rfl
    have hfz72_0 := blk_frozen BK151.out 0
    have hfz72_1 := blk_frozen BK151.out 1
    have hfz72_2 := blk_frozen BK151.out 2
    have hfz72_3 := blk_frozen BK151.out 3
    have hfz72_4 := blk_frozen BK151.out 4
    have hfz72_5 := blk_frozen BK151.out 5
    have hfz72_6 := blk_frozen BK151.out 6
    have hfz72_7 := blk_frozen BK151.out 7
    have hfz72_8 := blk_frozen BK151.out 8
    have hfz72_9 := blk_frozen BK151.out 9
    have hfz72_10 := blk_frozen BK151.out 10
    go_wp2_with (first | ((with_reducible refine gate_callee (f := 71) rfl ?_); refine goesL_ (some 51) rfl rfl Try.func71 (by kernel_rfl) rfl #[.int .i64 a0_8, .int .i64 0, .int .i64 3] rfl (by (try simp only [List.map_toArray, List.map_cons, List.map_nil]); first | done | rfl | (simp only [List.length_drop, List.length_take]; rfl)) ?_; (with_reducible refine (spec_l1In.calls a0_8 0 3 false _ A62.out).mono ?_); rintro e w' ⟨rfl, ⟨nd, rfl⟩⟩; refine ⟨_, rfl, ?_⟩))
    go_ret
    exact ⟨by first | rfl | (simp [errW_none, errW_some] <;> rfl) | (simp [*, errW_none, errW_some] <;> rfl), by repeat (first | (with_reducible first | exact HB.out | apply below_alloc | apply pw_below_drewN | apply below_drew1 | refine below_set ?_ GE151.out) | exact HB.out)⟩
   subst c63
   have H1 : (if ((a0_8 == 0) == (!a0_0)) = true then ((spec_l1In.f a0_9 0 4).bind fun t162 => (if t162 = true then (if a0_8 = 2 then (some (a0_10 == (a0_9 == 0))) else (some (a0_10 == false))) else (some false))) else (some false)) = some r := by rw [if_pos rfl] at H; exact H
   clear H
   have H := H1
   clear H1
   by_cases c64 : ((a0_8 == 0) == (!a0_0)) = true
   case neg =>
    rw [if_neg c64] at H
    have c64b0 : ((a0_8 == 0) == (!a0_0)) = false := by simpa using c64
    (try (have c64b1 : decide ((a0_8 == 0) = (!a0_0)) = false := by simpa using c64))
    (try (have c64b2 : ((a0_8 == 0) == (!a0_0)) = false := by simpa using c64))
    (try (have c64b3 : ¬ ((a0_8 == 0) = (!a0_0)) := by simpa using c64))
    clear c64
    obtain rfl := Option.some.inj H
    have hcz71_0 : wc.cell? ⟨gb151, 0, none⟩ = some (.bool a0_0) := (blk_cell BK151.out 0).trans rfl
    have hcz71_1 : wc.cell? ⟨gb151, 1, none⟩ = some (.bool false) := (blk_cell BK151.out 1).trans rfl
    have hcz71_2 : wc.cell? ⟨gb151, 2, none⟩ = some (.int .i64 a0_2) := (blk_cell BK151.out 2).trans rfl
    have hcz71_3 : wc.cell? ⟨gb151, 3, none⟩ = some (.int .i64 a0_3) := (blk_cell BK151.out 3).trans rfl
    have hcz71_4 : wc.cell? ⟨gb151, 4, none⟩ = some (.int .i64 a0_4) := (blk_cell BK151.out 4).trans rfl
    have hcz71_5 : wc.cell? ⟨gb151, 5, none⟩ = some (.int .i64 a0_5) := (blk_cell BK151.out 5).trans rfl
    have hcz71_6 : wc.cell? ⟨gb151, 6, none⟩ = some (.int .i64 a0_6) := (blk_cell BK151.out 6).trans rfl
    have hcz71_7 : wc.cell? ⟨gb151, 7, none⟩ = some (.int .i64 a0_7) := (blk_cell BK151.out 7).trans rfl
    have hcz71_8 : wc.cell? ⟨gb151, 8, none⟩ = some (.int .i64 a0_8) := (blk_cell BK151.out 8).trans rfl
    have hcz71_9 : wc.cell? ⟨gb151, 9, none⟩ = some (.int .i64 a0_9) := (blk_cell BK151.out 9).trans rfl
    have hcz71_10 : wc.cell? ⟨gb151, 10, none⟩ = some (.bool a0_10) := (blk_cell BK151.out 10).trans rfl
    have hfz71_0 := blk_frozen BK151.out 0
    have hfz71_1 := blk_frozen BK151.out 1
    have hfz71_2 := blk_frozen BK151.out 2
    have hfz71_3 := blk_frozen BK151.out 3
    have hfz71_4 := blk_frozen BK151.out 4
    have hfz71_5 := blk_frozen BK151.out 5
    have hfz71_6 := blk_frozen BK151.out 6
    have hfz71_7 := blk_frozen BK151.out 7
    have hfz71_8 := blk_frozen BK151.out 8
    have hfz71_9 := blk_frozen BK151.out 9
    have hfz71_10 := blk_frozen BK151.out 10
    go_wp2_with (first | ((with_reducible refine gate_callee (f := 71) rfl ?_); refine goesL_ (some 51) rfl rfl Try.func71 (by kernel_rfl) rfl #[.int .i64 a0_8, .int .i64 0, .int .i64 3] rfl (by (try simp only [List.map_toArray, List.map_cons, List.map_nil]); first | done | rfl | (simp only [List.length_drop, List.length_take]; rfl)) ?_; (with_reducible refine (spec_l1In.calls a0_8 0 3 true _ A62.out).mono ?_); rintro e w' ⟨rfl, ⟨nd, rfl⟩⟩; refine ⟨_, rfl, ?_⟩))
    go_ret
    exact ⟨by first | rfl | (simp [errW_none, errW_some] <;> rfl) | (simp [*, errW_none, errW_some] <;> rfl), by repeat (first | (with_reducible first | exact HB.out | apply below_alloc | apply pw_below_drewN | apply below_drew1 | refine below_set ?_ GE151.out) | exact HB.out)⟩
   rw [if_pos c64] at H
   have c64b0 : ((a0_8 == 0) == (!a0_0)) = true := c64
   (try (have c64b1 : decide ((a0_8 == 0) = (!a0_0)) = true := by simpa using c64))
   (try (have c64b2 : ((a0_8 == 0) == (!a0_0)) = true := by simpa using c64))
   clear c64
   replace H := Option.bind_eq_some_iff.mp H
   obtain ⟨t162, A650, H⟩ := H
   replace H : (if t162 = true then (if a0_8 = 2 then (some (a0_10 == (a0_9 == 0))) else (some (a0_10 == false))) else (some false)) = some r := H
   have A65 := aM A650
   clear A650
   by_cases c66 : t162 = true
   case neg =>
    replace c66 := Bool.eq_false_iff.mpr c66
    subst c66
    have H1 : (some false) = some r := by rw [if_neg (show ¬ (false = true) by decide)] at H; exact H
    clear H
    have H := H1
    clear H1
    obtain rfl := Option.some.inj H
    have hcz70_0 : wc.cell? ⟨gb151, 0, none⟩ = some (.bool a0_0) := (blk_cell BK151.out 0).trans rfl
    have hcz70_1 : wc.cell? ⟨gb151, 1, none⟩ = some (.bool false) := (blk_cell BK151.out 1).trans rfl
    have hcz70_2 : wc.cell? ⟨gb151, 2, none⟩ = some (.int .i64 a0_2) := (blk_cell BK151.out 2).trans rfl
    have hcz70_3 : wc.cell? ⟨gb151, 3, none⟩ = some (.int .i64 a0_3) := (blk_cell BK151.out 3).trans rfl
    have hcz70_4 : wc.cell? ⟨gb151, 4, none⟩ = some (.int .i64 a0_4) := (blk_cell BK151.out 4).trans rfl
    have hcz70_5 : wc.cell? ⟨gb151, 5, none⟩ = some (.int .i64 a0_5) := (blk_cell BK151.out 5).trans rfl
    have hcz70_6 : wc.cell? ⟨gb151, 6, none⟩ = some (.int .i64 a0_6) := (blk_cell BK151.out 6).trans rfl
    have hcz70_7 : wc.cell? ⟨gb151, 7, none⟩ = some (.int .i64 a0_7) := (blk_cell BK151.out 7).trans rfl
    have hcz70_8 : wc.cell? ⟨gb151, 8, none⟩ = some (.int .i64 a0_8) := (blk_cell BK151.out 8).trans rfl
    have hcz70_9 : wc.cell? ⟨gb151, 9, none⟩ = some (.int .i64 a0_9) := (blk_cell BK151.out 9).trans rfl
    have hcz70_10 : wc.cell? ⟨gb151, 10, none⟩ = some (.bool a0_10) := (blk_cell BK151.out 10).trans rfl
    have hfz70_0 := blk_frozen BK151.out 0
    have hfz70_1 := blk_frozen BK151.out 1
    have hfz70_2 := blk_frozen BK151.out 2
    have hfz70_3 := blk_frozen BK151.out 3
    have hfz70_4 := blk_frozen BK151.out 4
    have hfz70_5 := blk_frozen BK151.out 5
    have hfz70_6 := blk_frozen BK151.out 6
    have hfz70_7 := blk_frozen BK151.out 7
    have hfz70_8 := blk_frozen BK151.out 8
    have hfz70_9 := blk_frozen BK151.out 9
    have hfz70_10 := blk_frozen BK151.out 10
    go_wp2_with (first | ((with_reducible refine gate_callee (f := 71) rfl ?_); refine goesL_ (some 51) rfl rfl Try.func71 (by kernel_rfl) rfl #[.int .i64 a0_8, .int .i64 0, .int .i64 3] rfl (by (try simp only [List.map_toArray, List.map_cons, List.map_nil]); first | done | rfl | (simp only [List.length_drop, List.length_take]; rfl)) ?_; (with_reducible refine (spec_l1In.calls a0_8 0 3 true _ A62.out).mono ?_); rintro e w' ⟨rfl, ⟨nd, rfl⟩⟩; refine ⟨_, rfl, ?_⟩) | (go_at_call 71; (with_reducible refine (spec_l1In.calls a0_9 0 4 false _ A65.out).mono ?_); rintro e w' ⟨rfl, ⟨nd, rfl⟩⟩))
    go_ret
    exact ⟨by first | rfl | (simp [errW_none, errW_some] <;> rfl) | (simp [*, errW_none, errW_some] <;> rfl), by repeat (first | (with_reducible first | exact HB.out | apply below_alloc | apply pw_below_drewN | apply below_drew1 | refine below_set ?_ GE151.out) | exact HB.out)⟩
   subst c66
   have H1 : (if a0_8 = 2 then (some (a0_10 == (a0_9 == 0))) else (some (a0_10 == false))) = some r := by rw [if_pos rfl] at H; exact H
   clear H
   have H := H1
   clear H1
   by_cases c67 : a0_8 = 2
   case neg =>
    rw [if_neg c67] at H
    have c67b0 : (a0_8 == 2) = false := beq_eq_false_iff_ne.mpr c67
    have c67b1 : (a0_8 != 2) = true := bne_iff_ne.mpr c67
    obtain rfl := Option.some.inj H
    have hcz69_0 : wc.cell? ⟨gb151, 0, none⟩ = some (.bool a0_0) := (blk_cell BK151.out 0).trans rfl
    have hcz69_1 : wc.cell? ⟨gb151, 1, none⟩ = some (.bool false) := (blk_cell BK151.out 1).trans rfl
    have hcz69_2 : wc.cell? ⟨gb151, 2, none⟩ = some (.int .i64 a0_2) := (blk_cell BK151.out 2).trans rfl
    have hcz69_3 : wc.cell? ⟨gb151, 3, none⟩ = some (.int .i64 a0_3) := (blk_cell BK151.out 3).trans rfl
    have hcz69_4 : wc.cell? ⟨gb151, 4, none⟩ = some (.int .i64 a0_4) := (blk_cell BK151.out 4).trans rfl
    have hcz69_5 : wc.cell? ⟨gb151, 5, none⟩ = some (.int .i64 a0_5) := (blk_cell BK151.out 5).trans rfl
    have hcz69_6 : wc.cell? ⟨gb151, 6, none⟩ = some (.int .i64 a0_6) := (blk_cell BK151.out 6).trans rfl
    have hcz69_7 : wc.cell? ⟨gb151, 7, none⟩ = some (.int .i64 a0_7) := (blk_cell BK151.out 7).trans rfl
    have hcz69_8 : wc.cell? ⟨gb151, 8, none⟩ = some (.int .i64 a0_8) := (blk_cell BK151.out 8).trans rfl
    have hcz69_9 : wc.cell? ⟨gb151, 9, none⟩ = some (.int .i64 a0_9) := (blk_cell BK151.out 9).trans rfl
    have hcz69_10 : wc.cell? ⟨gb151, 10, none⟩ = some (.bool a0_10) := (blk_cell BK151.out 10).trans rfl
    have hfz69_0 := blk_frozen BK151.out 0
    have hfz69_1 := blk_frozen BK151.out 1
    have hfz69_2 := blk_frozen BK151.out 2
    have hfz69_3 := blk_frozen BK151.out 3
    have hfz69_4 := blk_frozen BK151.out 4
    have hfz69_5 := blk_frozen BK151.out 5
    have hfz69_6 := blk_frozen BK151.out 6
    have hfz69_7 := blk_frozen BK151.out 7
    have hfz69_8 := blk_frozen BK151.out 8
    have hfz69_9 := blk_frozen BK151.out 9
    have hfz69_10 := blk_frozen BK151.out 10
    go_wp2_with (first | ((with_reducible refine gate_callee (f := 71) rfl ?_); refine goesL_ (some 51) rfl rfl Try.func71 (by kernel_rfl) rfl #[.int .i64 a0_8, .int .i64 0, .int .i64 3] rfl (by (try simp only [List.map_toArray, List.map_cons, List.map_nil]); first | done | rfl | (simp only [List.length_drop, List.length_take]; rfl)) ?_; (with_reducible refine (spec_l1In.calls a0_8 0 3 true _ A62.out).mono ?_); rintro e w' ⟨rfl, ⟨nd, rfl⟩⟩; refine ⟨_, rfl, ?_⟩) | (go_at_call 71; (with_reducible refine (spec_l1In.calls a0_9 0 4 true _ A65.out).mono ?_); rintro e w' ⟨rfl, ⟨nd, rfl⟩⟩))
    go_ret
    exact ⟨by first | rfl | (simp [errW_none, errW_some] <;> rfl) | (simp [*, errW_none, errW_some] <;> rfl), by repeat (first | (with_reducible first | exact HB.out | apply below_alloc | apply pw_below_drewN | apply below_drew1 | refine below_set ?_ GE151.out) | exact HB.out)⟩
   rw [if_pos c67] at H
   have c67b0 : (a0_8 == 2) = true := beq_iff_eq.mpr c67
   have c67b1 : (a0_8 != 2) = false := bne_eq_false_iff_eq.mpr c67
   clear c67
   obtain rfl := Option.some.inj H
   have hcz68_0 : wc.cell? ⟨gb151, 0, none⟩ = some (.bool a0_0) := (blk_cell BK151.out 0).trans rfl
   have hcz68_1 : wc.cell? ⟨gb151, 1, none⟩ = some (.bool false) := (blk_cell BK151.out 1).trans rfl
   have hcz68_2 : wc.cell? ⟨gb151, 2, none⟩ = some (.int .i64 a0_2) := (blk_cell BK151.out 2).trans rfl
   have hcz68_3 : wc.cell? ⟨gb151, 3, none⟩ = some (.int .i64 a0_3) := (blk_cell BK151.out 3).trans rfl
   have hcz68_4 : wc.cell? ⟨gb151, 4, none⟩ = some (.int .i64 a0_4) := (blk_cell BK151.out 4).trans rfl
   have hcz68_5 : wc.cell? ⟨gb151, 5, none⟩ = some (.int .i64 a0_5) := (blk_cell BK151.out 5).trans rfl
   have hcz68_6 : wc.cell? ⟨gb151, 6, none⟩ = some (.int .i64 a0_6) := (blk_cell BK151.out 6).trans rfl
   have hcz68_7 : wc.cell? ⟨gb151, 7, none⟩ = some (.int .i64 a0_7) := (blk_cell BK151.out 7).trans rfl
   have hcz68_8 : wc.cell? ⟨gb151, 8, none⟩ = some (.int .i64 a0_8) := (blk_cell BK151.out 8).trans rfl
   have hcz68_9 : wc.cell? ⟨gb151, 9, none⟩ = some (.int .i64 a0_9) := (blk_cell BK151.out 9).trans rfl
   have hcz68_10 : wc.cell? ⟨gb151, 10, none⟩ = some (.bool a0_10) := (blk_cell BK151.out 10).trans rfl
   have hfz68_0 := blk_frozen BK151.out 0
   have hfz68_1 := blk_frozen BK151.out 1
   have hfz68_2 := blk_frozen BK151.out 2
   have hfz68_3 := blk_frozen BK151.out 3
   have hfz68_4 := blk_frozen BK151.out 4
   have hfz68_5 := blk_frozen BK151.out 5
   have hfz68_6 := blk_frozen BK151.out 6
   have hfz68_7 := blk_frozen BK151.out 7
   have hfz68_8 := blk_frozen BK151.out 8
   have hfz68_9 := blk_frozen BK151.out 9
   have hfz68_10 := blk_frozen BK151.out 10
   go_wp2_with (first | ((with_reducible refine gate_callee (f := 71) rfl ?_); refine goesL_ (some 51) rfl rfl Try.func71 (by kernel_rfl) rfl #[.int .i64 a0_8, .int .i64 0, .int .i64 3] rfl (by (try simp only [List.map_toArray, List.map_cons, List.map_nil]); first | done | rfl | (simp only [List.length_drop, List.length_take]; rfl)) ?_; (with_reducible refine (spec_l1In.calls a0_8 0 3 true _ A62.out).mono ?_); rintro e w' ⟨rfl, ⟨nd, rfl⟩⟩; refine ⟨_, rfl, ?_⟩) | (go_at_call 71; (with_reducible refine (spec_l1In.calls a0_9 0 4 true _ A65.out).mono ?_); rintro e w' ⟨rfl, ⟨nd, rfl⟩⟩))
   go_ret
   exact ⟨by first | rfl | (simp [errW_none, errW_some] <;> rfl) | (simp [*, errW_none, errW_some] <;> rfl), by repeat (first | (with_reducible first | exact HB.out | apply below_alloc | apply pw_below_drewN | apply below_drew1 | refine below_set ?_ GE151.out) | exact HB.out)⟩

end Go.Proofs.Ytjmkbmpfknhcdaa.PFnExactOwn
