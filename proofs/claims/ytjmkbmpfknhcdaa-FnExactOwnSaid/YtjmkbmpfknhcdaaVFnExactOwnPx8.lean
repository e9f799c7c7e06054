/- Of the proof of laws.FnExactOwn: a part. No condition beyond what its theorems say. -/
import Derived.Test.YtjmkbmpfknhcdaaVFnExactOwnPx0
import Derived.Test.YtjmkbmpfknhcdaaVFnExactOwnPx1
import Derived.Test.YtjmkbmpfknhcdaaVFnExactOwnPx7
namespace Go.Proofs.Ytjmkbmpfknhcdaa.PFnExactOwn
open Go.RowKit Go.Proofs.YtjmkbmpfknhcdaaW.PrintWords Go.Proofs.YtjmkbmpfknhcdaaW.PrintLast Go.Proofs.YtjmkbmpfknhcdaaW.PrintMore
attribute [local go_sem] max2_int min2_int max_two min_two max_three min_three max_four min_four   -- for this text's walks alone
set_option linter.unusedVariables false
set_option linter.unusedSimpArgs false

attribute [local go_sem high] eqA77
mutual
def impl_PortOk.j0 : Nat → Bool → Bool → Bool → Int → Int → Int → Int → Int → Int → Int → Int → Bool → Option (Bool)
 | 0, _, _, _, _, _, _, _, _, _, _, _, _ => none
 | k + 1, x27, x193000, x193001, x193002, x193003, x193004, x193005, x193006, x193007, x193008, x193009, x193010 => if x27 = true then (some false) else (if x193001 = true then (impl_PortOk.j1 k false x193000 x193001 x193002 x193003 x193004 x193005 x193006 x193007 x193008 x193009 x193010) else (if (!(x193002 == 0) || (!(x193003 == 0) || (!(x193004 == 0) || (!(x193005 == 0))))) = true then (impl_PortOk.j1 k true x193000 x193001 x193002 x193003 x193004 x193005 x193006 x193007 x193008 x193009 x193010) else (if x193006 = 0 then (impl_PortOk.j1 k (x193007 != 0) x193000 x193001 x193002 x193003 x193004 x193005 x193006 x193007 x193008 x193009 x193010) else (impl_PortOk.j1 k true x193000 x193001 x193002 x193003 x193004 x193005 x193006 x193007 x193008 x193009 x193010))))
def impl_PortOk.j1 : Nat → Bool → Bool → Bool → Int → Int → Int → Int → Int → Int → Int → Int → Bool → Option (Bool)
 | 0, _, _, _, _, _, _, _, _, _, _, _, _ => none
 | k + 1, x46, x193000, x193001, x193002, x193003, x193004, x193005, x193006, x193007, x193008, x193009, x193010 => if x46 = true then (some false) else ((impl_inRange.f x193008 0 3).bind fun t196 => (if t196 = true then (if ((x193008 == 0) == x193000) = true then (some false) else ((impl_inRange.f x193009 0 4).bind fun t197 => (if t197 = true then ((impl_Port_isOpenBy.f x193000 x193001 x193002 x193003 x193004 x193005 x193006 x193007 x193008 x193009 x193010).bind fun t198 => (some (x193010 == t198))) else (some false)))) else (some false)))
end
def impl_PortOk.f (k : Nat) (a0_0 : Bool) (a0_1 : Bool) (a0_2 : Int) (a0_3 : Int) (a0_4 : Int) (a0_5 : Int) (a0_6 : Int) (a0_7 : Int) (a0_8 : Int) (a0_9 : Int) (a0_10 : Bool) : Option (Bool) := if a0_1 = true then (if a0_0 = true then ((impl_VecOk.f a0_2 a0_3 a0_4 a0_5).bind fun t193 => (if t193 = true then ((impl_isHops.f a0_6).bind fun t194 => (if t194 = true then ((impl_inRange.f a0_7 1 3).bind fun t195 => (impl_PortOk.j0 k (!t195) a0_0 a0_1 a0_2 a0_3 a0_4 a0_5 a0_6 a0_7 a0_8 a0_9 a0_10)) else (impl_PortOk.j0 k true a0_0 a0_1 a0_2 a0_3 a0_4 a0_5 a0_6 a0_7 a0_8 a0_9 a0_10))) else (impl_PortOk.j0 k true a0_0 a0_1 a0_2 a0_3 a0_4 a0_5 a0_6 a0_7 a0_8 a0_9 a0_10))) else (impl_PortOk.j0 k true a0_0 a0_1 a0_2 a0_3 a0_4 a0_5 a0_6 a0_7 a0_8 a0_9 a0_10)) else (impl_PortOk.j0 k false a0_0 a0_1 a0_2 a0_3 a0_4 a0_5 a0_6 a0_7 a0_8 a0_9 a0_10)
theorem impl_PortOk.mono_l : ∀ k, (∀ y0 y1 y2 y3 y4 y5 y6 y7 y8 y9 y10 y11, LeO (impl_PortOk.j0 k y0 y1 y2 y3 y4 y5 y6 y7 y8 y9 y10 y11) (impl_PortOk.j0 (k + 1) y0 y1 y2 y3 y4 y5 y6 y7 y8 y9 y10 y11)) ∧ (∀ y0 y1 y2 y3 y4 y5 y6 y7 y8 y9 y10 y11, LeO (impl_PortOk.j1 k y0 y1 y2 y3 y4 y5 y6 y7 y8 y9 y10 y11) (impl_PortOk.j1 (k + 1) y0 y1 y2 y3 y4 y5 y6 y7 y8 y9 y10 y11))
 | 0 => ⟨fun _ _ _ _ _ _ _ _ _ _ _ _ r h => by simp [impl_PortOk.j0] at h, fun _ _ _ _ _ _ _ _ _ _ _ _ r h => by simp [impl_PortOk.j1] at h⟩
 | k + 1 => by
  obtain ⟨ih0, ih1⟩ := impl_PortOk.mono_l k
  refine ⟨?_, ?_⟩
  ·intro y0 y1 y2 y3 y4 y5 y6 y7 y8 y9 y10 y11
   unfold impl_PortOk.j0
   repeat' first
   | (with_reducible exact ih0 _ _ _ _ _ _ _ _ _ _ _ _)
   | (with_reducible exact ih1 _ _ _ _ _ _ _ _ _ _ _ _)
   | (with_reducible exact LeO.refl _)
   | (with_reducible exact LeO.none _)
   | (with_reducible refine LeO.ite ?_ ?_)
   | (with_reducible refine LeO.bind ?_ (fun _ => ?_))
   | exact ih0 _ _ _ _ _ _ _ _ _ _ _ _
   | exact ih1 _ _ _ _ _ _ _ _ _ _ _ _
   | exact LeO.none _
   | refine LeO.ite ?_ ?_
   | refine LeO.bind ?_ (fun _ => ?_)
  ·intro y0 y1 y2 y3 y4 y5 y6 y7 y8 y9 y10 y11
   unfold impl_PortOk.j1
   repeat' first
   | (with_reducible exact ih0 _ _ _ _ _ _ _ _ _ _ _ _)
   | (with_reducible exact ih1 _ _ _ _ _ _ _ _ _ _ _ _)
   | (with_reducible exact LeO.refl _)
   | (with_reducible exact LeO.none _)
   | (with_reducible refine LeO.ite ?_ ?_)
   | (with_reducible refine LeO.bind ?_ (fun _ => ?_))
   | exact ih0 _ _ _ _ _ _ _ _ _ _ _ _
   | exact ih1 _ _ _ _ _ _ _ _ _ _ _ _
   | exact LeO.none _
   | refine LeO.ite ?_ ?_
   | refine LeO.bind ?_ (fun _ => ?_)
theorem impl_PortOk.mono : ∀ a0 a1 a2 a3 a4 a5 a6 a7 a8 a9 a10 k, LeO (impl_PortOk.f k a0 a1 a2 a3 a4 a5 a6 a7 a8 a9 a10) (impl_PortOk.f (k + 1) a0 a1 a2 a3 a4 a5 a6 a7 a8 a9 a10) := by
 intro a0 a1 a2 a3 a4 a5 a6 a7 a8 a9 a10 k
 obtain ⟨ih0, ih1⟩ := impl_PortOk.mono_l k
 unfold impl_PortOk.f
 repeat' first
   | (with_reducible exact ih0 _ _ _ _ _ _ _ _ _ _ _ _)
   | (with_reducible exact ih1 _ _ _ _ _ _ _ _ _ _ _ _)
   | (with_reducible exact LeO.refl _)
   | (with_reducible exact LeO.none _)
   | (with_reducible refine LeO.ite ?_ ?_)
   | (with_reducible refine LeO.bind ?_ (fun _ => ?_))
   | exact ih0 _ _ _ _ _ _ _ _ _ _ _ _
   | exact ih1 _ _ _ _ _ _ _ _ _ _ _ _
   | exact LeO.none _
   | refine LeO.ite ?_ ?_
   | refine LeO.bind ?_ (fun _ => ?_)
set_option maxHeartbeats 60000000 in
set_option maxRecDepth 100000 in
theorem impl_PortOk.calls (k : Nat) (a0_0 : Bool) (a0_1 : Bool) (a0_2 : Int) (a0_3 : Int) (a0_4 : Int) (a0_5 : Int) (a0_6 : Int) (a0_7 : Int) (a0_8 : Int) (a0_9 : Int) (a0_10 : Bool) (r : Bool) (w : World) (h : impl_PortOk.f k a0_0 a0_1 a0_2 a0_3 a0_4 a0_5 a0_6 a0_7 a0_8 a0_9 a0_10 = some r) :
  Calls Try.prog 119 #[.agg #[.bool a0_0, .bool a0_1, .int .i64 a0_2, .int .i64 a0_3, .int .i64 a0_4, .int .i64 a0_5, .int .i64 a0_6, .int .i64 a0_7, .int .i64 a0_8, .int .i64 a0_9, .bool a0_10]] w fun e w' => e = .returned (.bool r) ∧ Below w.heap.size w w' := by
 have hu109 := Try.underlying109
 have hu77 := Try.underlying77
 have HB := aM (Below.refl w.heap.size w)
 have H : (if a0_1 = true then (if a0_0 = true then ((impl_VecOk.f a0_2 a0_3 a0_4 a0_5).bind fun t193 => (if t193 = true then ((impl_isHops.f a0_6).bind fun t194 => (if t194 = true then ((impl_inRange.f a0_7 1 3).bind fun t195 => (impl_PortOk.j0 k (!t195) a0_0 a0_1 a0_2 a0_3 a0_4 a0_5 a0_6 a0_7 a0_8 a0_9 a0_10)) else (impl_PortOk.j0 k true a0_0 a0_1 a0_2 a0_3 a0_4 a0_5 a0_6 a0_7 a0_8 a0_9 a0_10))) else (impl_PortOk.j0 k true a0_0 a0_1 a0_2 a0_3 a0_4 a0_5 a0_6 a0_7 a0_8 a0_9 a0_10))) else (impl_PortOk.j0 k true a0_0 a0_1 a0_2 a0_3 a0_4 a0_5 a0_6 a0_7 a0_8 a0_9 a0_10)) else (impl_PortOk.j0 k false a0_0 a0_1 a0_2 a0_3 a0_4 a0_5 a0_6 a0_7 a0_8 a0_9 a0_10)) = some r := h
 clear h
 have HC2 := aM H
 clear H
 go_enter Try.func119, Try.ntmps119
 go_upto_region 1 with (first | ((with_reducible refine gate_dst (N := 1) rfl ?_); refine box_event ?hg (N := 1) ?hd (cs := #[.bool a0_0, .bool a0_1, .int .i64 a0_2, .int .i64 a0_3, .int .i64 a0_4, .int .i64 a0_5, .int .i64 a0_6, .int .i64 a0_7, .int .i64 a0_8, .int .i64 a0_9, .bool a0_10]) (t := 109) ?hr ?_; (case hd => rfl); (case hg => rfl); (case hr => first | (go_simp; done) | (go_simp; rfl)); intro gb192 hg w3 hbox hb; have n0_ := aM (below_step (by repeat (first | (with_reducible first | exact HB.out | apply below_alloc | apply pw_below_drewN | apply below_drew1) | exact HB.out)) hb); have n1_ := aM (hbox); have n2_ := aM ((by rw [hg]; exact (below_size (by repeat (first | (with_reducible first | exact HB.out | apply below_alloc | apply pw_below_drewN | apply below_drew1) | exact HB.out))) : w.heap.size ≤ gb192)); have n3_ := aM ((by rw [hg]; exact (below_size (by repeat (first | (with_reducible first | exact HB.out | apply below_alloc | apply pw_below_drewN | apply below_drew1) | exact HB.out))) : w.heap.size ≤ gb192)); clear HB; have HB := n0_; have BK192 := n1_; have GW192 := n2_; have GE192 := n3_; clear n0_ n1_ n2_ n3_; clear hb hbox hg))
 (try simp only [Act.put, sA, sZ, sS])
 go_cut [27] (fun v27 wc => ∃ (kq : Nat) (x27_1 : Bool), v27 = .bool x27_1 ∧ Aside0 (impl_PortOk.j0 kq x27_1 a0_0 a0_1 a0_2 a0_3 a0_4 a0_5 a0_6 a0_7 a0_8 a0_9 a0_10 = some r) ∧ Aside0 (kq ≤ k) ∧ Aside0 (wc.heap[gb192]? = some (.cells #[.bool a0_0, .bool a0_1, .int .i64 a0_2, .int .i64 a0_3, .int .i64 a0_4, .int .i64 a0_5, .int .i64 a0_6, .int .i64 a0_7, .int .i64 a0_8, .int .i64 a0_9, .bool a0_10] 109 (0, 0))) ∧ Aside0 (Below w.heap.size w wc))
 case first =>
  have H := HC2.out
  clear HC2
  by_cases c4 : a0_1 = true
  case neg =>
   replace c4 := Bool.eq_false_iff.mpr c4
   subst c4
   have H1 : (impl_PortOk.j0 k false a0_0 false a0_2 a0_3 a0_4 a0_5 a0_6 a0_7 a0_8 a0_9 a0_10) = some r := by rw [if_neg (show ¬ (false = true) by decide)] at H; exact H
   clear H
   have H := H1
   clear H1
   have H' := aM H
   clear H
   have hcz20_0 : w3.cell? ⟨gb192, 0, none⟩ = some (.bool a0_0) := (blk_cell BK192.out 0).trans rfl
   have hcz20_1 : w3.cell? ⟨gb192, 1, none⟩ = some (.bool false) := (blk_cell BK192.out 1).trans rfl
   have hcz20_2 : w3.cell? ⟨gb192, 2, none⟩ = some (.int .i64 a0_2) := (blk_cell BK192.out 2).trans rfl
   have hcz20_3 : w3.cell? ⟨gb192, 3, none⟩ = some (.int .i64 a0_3) := (blk_cell BK192.out 3).trans rfl
   have hcz20_4 : w3.cell? ⟨gb192, 4, none⟩ = some (.int .i64 a0_4) := (blk_cell BK192.out 4).trans rfl
   have hcz20_5 : w3.cell? ⟨gb192, 5, none⟩ = some (.int .i64 a0_5) := (blk_cell BK192.out 5).trans rfl
   have hcz20_6 : w3.cell? ⟨gb192, 6, none⟩ = some (.int .i64 a0_6) := (blk_cell BK192.out 6).trans rfl
   have hcz20_7 : w3.cell? ⟨gb192, 7, none⟩ = some (.int .i64 a0_7) := (blk_cell BK192.out 7).trans rfl
   have hcz20_8 : w3.cell? ⟨gb192, 8, none⟩ = some (.int .i64 a0_8) := (blk_cell BK192.out 8).trans rfl
   have hcz20_9 : w3.cell? ⟨gb192, 9, none⟩ = some (.int .i64 a0_9) := (blk_cell BK192.out 9).trans rfl
   have hcz20_10 : w3.cell? ⟨gb192, 10, none⟩ = some (.bool a0_10) := (blk_cell BK192.out 10).trans rfl
   have hfz20_0 := blk_frozen BK192.out 0
   have hfz20_1 := blk_frozen BK192.out 1
   have hfz20_2 := blk_frozen BK192.out 2
   have hfz20_3 := blk_frozen BK192.out 3
   have hfz20_4 := blk_frozen BK192.out 4
   have hfz20_5 := blk_frozen BK192.out 5
   have hfz20_6 := blk_frozen BK192.out 6
   have hfz20_7 := blk_frozen BK192.out 7
   have hfz20_8 := blk_frozen BK192.out 8
   have hfz20_9 := blk_frozen BK192.out 9
   have hfz20_10 := blk_frozen BK192.out 10
   go_wp2
   go_meet
   case rel => exact ⟨_, (false), (by first | rfl | (simp; done) | (simp [*]; done)), H', ⟨by first | omega | exact Nat.le_refl _⟩, ⟨by (with_reducible repeat (first | refine blk_drewN ?_ _ | refine blk_drew ?_ | refine blk_alloc ?_ _)); exact BK192.out⟩, ⟨by repeat (first | (with_reducible first | exact HB.out | apply below_alloc | apply pw_below_drewN | apply below_drew1 | refine below_set ?_ GE192.out) | exact HB.out)⟩⟩
  subst c4
  have H1 : (if a0_0 = true then ((impl_VecOk.f a0_2 a0_3 a0_4 a0_5).bind fun t193 => (if t193 = true then ((impl_isHops.f a0_6).bind fun t194 => (if t194 = true then ((impl_inRange.f a0_7 1 3).bind fun t195 => (impl_PortOk.j0 k (!t195) a0_0 true a0_2 a0_3 a0_4 a0_5 a0_6 a0_7 a0_8 a0_9 a0_10)) else (impl_PortOk.j0 k true a0_0 true a0_2 a0_3 a0_4 a0_5 a0_6 a0_7 a0_8 a0_9 a0_10))) else (impl_PortOk.j0 k true a0_0 true a0_2 a0_3 a0_4 a0_5 a0_6 a0_7 a0_8 a0_9 a0_10))) else (impl_PortOk.j0 k true a0_0 true a0_2 a0_3 a0_4 a0_5 a0_6 a0_7 a0_8 a0_9 a0_10)) = some r := by rw [if_pos rfl] at H; exact H
  clear H
  have H := H1
  clear H1
  by_cases c5 : a0_0 = true
  case neg =>
   replace c5 := Bool.eq_false_iff.mpr c5
   subst c5
   have H1 : (impl_PortOk.j0 k true false true a0_2 a0_3 a0_4 a0_5 a0_6 a0_7 a0_8 a0_9 a0_10) = some r := by rw [if_neg (show ¬ (false = true) by decide)] at H; exact H
   clear H
   have H := H1
   clear H1
   have H' := aM H
   clear H
   have hcz19_0 : w3.cell? ⟨gb192, 0, none⟩ = some (.bool false) := (blk_cell BK192.out 0).trans rfl
   have hcz19_1 : w3.cell? ⟨gb192, 1, none⟩ = some (.bool true) := (blk_cell BK192.out 1).trans rfl
   have hcz19_2 : w3.cell? ⟨gb192, 2, none⟩ = some (.int .i64 a0_2) := (blk_cell BK192.out 2).trans rfl
   have hcz19_3 : w3.cell? ⟨gb192, 3, none⟩ = some (.int .i64 a0_3) := (blk_cell BK192.out 3).trans rfl
   have hcz19_4 : w3.cell? ⟨gb192, 4, none⟩ = some (.int .i64 a0_4) := (blk_cell BK192.out 4).trans rfl
   have hcz19_5 : w3.cell? ⟨gb192, 5, none⟩ = some (.int .i64 a0_5) := (blk_cell BK192.out 5).trans rfl
   have hcz19_6 : w3.cell? ⟨gb192, 6, none⟩ = some (.int .i64 a0_6) := (blk_cell BK192.out 6).trans rfl
   have hcz19_7 : w3.cell? ⟨gb192, 7, none⟩ = some (.int .i64 a0_7) := (blk_cell BK192.out 7).trans rfl
   have hcz19_8 : w3.cell? ⟨gb192, 8, none⟩ = some (.int .i64 a0_8) := (blk_cell BK192.out 8).trans rfl
   have hcz19_9 : w3.cell? ⟨gb192, 9, none⟩ = some (.int .i64 a0_9) := (blk_cell BK192.out 9).trans rfl
   have hcz19_10 : w3.cell? ⟨gb192, 10, none⟩ = some (.bool a0_10) := (blk_cell BK192.out 10).trans rfl
   have hfz19_0 := blk_frozen BK192.out 0
   have hfz19_1 := blk_frozen BK192.out 1
   have hfz19_2 := blk_frozen BK192.out 2
   have hfz19_3 := blk_frozen BK192.out 3
   have hfz19_4 := blk_frozen BK192.out 4
   have hfz19_5 := blk_frozen BK192.out 5
   have hfz19_6 := blk_frozen BK192.out 6
   have hfz19_7 := blk_frozen BK192.out 7
   have hfz19_8 := blk_frozen BK192.out 8
   have hfz19_9 := blk_frozen BK192.out 9
   have hfz19_10 := blk_frozen BK192.out 10
   go_wp2
   go_meet
   case rel => exact ⟨_, (true), (by first | rfl | (simp; done) | (simp [*]; done)), H', ⟨by first | omega | exact Nat.le_refl _⟩, ⟨by (with_reducible repeat (first | refine blk_drewN ?_ _ | refine blk_drew ?_ | refine blk_alloc ?_ _)); exact BK192.out⟩, ⟨by repeat (first | (with_reducible first | exact HB.out | apply below_alloc | apply pw_below_drewN | apply below_drew1 | refine below_set ?_ GE192.out) | exact HB.out)⟩⟩
  subst c5
  have H1 : ((impl_VecOk.f a0_2 a0_3 a0_4 a0_5).bind fun t193 => (if t193 = true then ((impl_isHops.f a0_6).bind fun t194 => (if t194 = true then ((impl_inRange.f a0_7 1 3).bind fun t195 => (impl_PortOk.j0 k (!t195) true true a0_2 a0_3 a0_4 a0_5 a0_6 a0_7 a0_8 a0_9 a0_10)) else (impl_PortOk.j0 k true true true a0_2 a0_3 a0_4 a0_5 a0_6 a0_7 a0_8 a0_9 a0_10))) else (impl_PortOk.j0 k true true true a0_2 a0_3 a0_4 a0_5 a0_6 a0_7 a0_8 a0_9 a0_10))) = some r := by rw [if_pos rfl] at H; exact H
  clear H
  have H := H1
  clear H1
  replace H := Option.bind_eq_some_iff.mp H
  obtain ⟨t193, A60, H⟩ := H
  replace H : (if t193 = true then ((impl_isHops.f a0_6).bind fun t194 => (if t194 = true then ((impl_inRange.f a0_7 1 3).bind fun t195 => (impl_PortOk.j0 k (!t195) true true a0_2 a0_3 a0_4 a0_5 a0_6 a0_7 a0_8 a0_9 a0_10)) else (impl_PortOk.j0 k true true true a0_2 a0_3 a0_4 a0_5 a0_6 a0_7 a0_8 a0_9 a0_10))) else (impl_PortOk.j0 k true true true a0_2 a0_3 a0_4 a0_5 a0_6 a0_7 a0_8 a0_9 a0_10)) = some r := H
  have A6 := aM A60
  clear A60
  by_cases c7 : t193 = true
  case neg =>
   replace c7 := Bool.eq_false_iff.mpr c7
   subst c7
   have H1 : (impl_PortOk.j0 k true true true a0_2 a0_3 a0_4 a0_5 a0_6 a0_7 a0_8 a0_9 a0_10) = some r := by rw [if_neg (show ¬ (false = true) by decide)] at H; exact H
   clear H
   have H := H1
   clear H1
   have H' := aM H
   clear H
   have hcz17_0 : w3.cell? ⟨gb192, 0, none⟩ = some (.bool true) := (blk_cell BK192.out 0).trans rfl
   have hcz17_1 : w3.cell? ⟨gb192, 1, none⟩ = some (.bool true) := (blk_cell BK192.out 1).trans rfl
   have hcz17_2 : w3.cell? ⟨gb192, 2, none⟩ = some (.int .i64 a0_2) := (blk_cell BK192.out 2).trans rfl
   have hcz17_3 : w3.cell? ⟨gb192, 3, none⟩ = some (.int .i64 a0_3) := (blk_cell BK192.out 3).trans rfl
   have hcz17_4 : w3.cell? ⟨gb192, 4, none⟩ = some (.int .i64 a0_4) := (blk_cell BK192.out 4).trans rfl
   have hcz17_5 : w3.cell? ⟨gb192, 5, none⟩ = some (.int .i64 a0_5) := (blk_cell BK192.out 5).trans rfl
   have hcz17_6 : w3.cell? ⟨gb192, 6, none⟩ = some (.int .i64 a0_6) := (blk_cell BK192.out 6).trans rfl
   have hcz17_7 : w3.cell? ⟨gb192, 7, none⟩ = some (.int .i64 a0_7) := (blk_cell BK192.out 7).trans rfl
   have hcz17_8 : w3.cell? ⟨gb192, 8, none⟩ = some (.int .i64 a0_8) := (blk_cell BK192.out 8).trans rfl
   have hcz17_9 : w3.cell? ⟨gb192, 9, none⟩ = some (.int .i64 a0_9) := (blk_cell BK192.out 9).trans rfl
   have hcz17_10 : w3.cell? ⟨gb192, 10, none⟩ = some (.bool a0_10) := (blk_cell BK192.out 10).trans rfl
   have hfz17_0 := blk_frozen BK192.out 0
   have hfz17_1 := blk_frozen BK192.out 1
   have hfz17_2 := blk_frozen BK192.out 2
   have hfz17_3 := blk_frozen BK192.out 3
   have hfz17_4 := blk_frozen BK192.out 4
   have hfz17_5 := blk_frozen BK192.out 5
   have hfz17_6 := blk_frozen BK192.out 6
   have hfz17_7 := blk_frozen BK192.out 7
   have hfz17_8 := blk_frozen BK192.out 8
   have hfz17_9 := blk_frozen BK192.out 9
   have hfz17_10 := blk_frozen BK192.out 10
   go_wp2_with (first | (go_at_call 127; (with_reducible refine (impl_VecOk.calls a0_2 a0_3 a0_4 a0_5 false _ A6.out).mono ?_); rintro e w18 ⟨rfl, hb⟩; have n0_ := aM (blk_below (g := gb192) (o := .cells #[.bool true, .bool true, .int .i64 a0_2, .int .i64 a0_3, .int .i64 a0_4, .int .i64 a0_5, .int .i64 a0_6, .int .i64 a0_7, .int .i64 a0_8, .int .i64 a0_9, .bool a0_10] 109 (0, 0)) (by (with_reducible repeat (first | refine blk_drewN ?_ _ | refine blk_drew ?_ | refine blk_alloc ?_ _)); exact BK192.out) hb); have n1_ := aM (below_step (by repeat (first | (with_reducible first | exact HB.out | apply below_alloc | apply pw_below_drewN | apply below_drew1 | refine below_set ?_ GE192.out) | exact HB.out)) hb); clear BK192; clear HB; have BK192 := n0_; have HB := n1_; clear n0_ n1_; (try clear hb); (try clear hb2); (try clear hk); (try clear hi)))
   go_meet
   case rel => exact ⟨_, (true), (by first | rfl | (simp; done) | (simp [*]; done)), H', ⟨by first | omega | exact Nat.le_refl _⟩, ⟨by (with_reducible repeat (first | refine blk_drewN ?_ _ | refine blk_drew ?_ | refine blk_alloc ?_ _)); exact BK192.out⟩, ⟨by repeat (first | (with_reducible first | exact HB.out | apply below_alloc | apply pw_below_drewN | apply below_drew1 | refine below_set ?_ GE192.out) | exact HB.out)⟩⟩
  subst c7
  have H1 : ((impl_isHops.f a0_6).bind fun t194 => (if t194 = true then ((impl_inRange.f a0_7 1 3).bind fun t195 => (impl_PortOk.j0 k (!t195) true true a0_2 a0_3 a0_4 a0_5 a0_6 a0_7 a0_8 a0_9 a0_10)) else (impl_PortOk.j0 k true true true a0_2 a0_3 a0_4 a0_5 a0_6 a0_7 a0_8 a0_9 a0_10))) = some r := by rw [if_pos rfl] at H; exact H
  clear H
  have H := H1
  clear H1
  replace H := Option.bind_eq_some_iff.mp H
  obtain ⟨t194, A80, H⟩ := H
  replace H : (if t194 = true then ((impl_inRange.f a0_7 1 3).bind fun t195 => (impl_PortOk.j0 k (!t195) true true a0_2 a0_3 a0_4 a0_5 a0_6 a0_7 a0_8 a0_9 a0_10)) else (impl_PortOk.j0 k true true true a0_2 a0_3 a0_4 a0_5 a0_6 a0_7 a0_8 a0_9 a0_10)) = some r := H
  have A8 := aM A80
  clear A80
  by_cases c9 : t194 = true
  case neg =>
   replace c9 := Bool.eq_false_iff.mpr c9
   subst c9
   have H1 : (impl_PortOk.j0 k true true true a0_2 a0_3 a0_4 a0_5 a0_6 a0_7 a0_8 a0_9 a0_10) = some r := by rw [if_neg (show ¬ (false = true) by decide)] at H; exact H
   clear H
   have H := H1
   clear H1
   have H' := aM H
   clear H
   have hcz14_0 : w3.cell? ⟨gb192, 0, none⟩ = some (.bool true) := (blk_cell BK192.out 0).trans rfl
   have hcz14_1 : w3.cell? ⟨gb192, 1, none⟩ = some (.bool true) := (blk_cell BK192.out 1).trans rfl
   have hcz14_2 : w3.cell? ⟨gb192, 2, none⟩ = some (.int .i64 a0_2) := (blk_cell BK192.out 2).trans rfl
   have hcz14_3 : w3.cell? ⟨gb192, 3, none⟩ = some (.int .i64 a0_3) := (blk_cell BK192.out 3).trans rfl
   have hcz14_4 : w3.cell? ⟨gb192, 4, none⟩ = some (.int .i64 a0_4) := (blk_cell BK192.out 4).trans rfl
   have hcz14_5 : w3.cell? ⟨gb192, 5, none⟩ = some (.int .i64 a0_5) := (blk_cell BK192.out 5).trans rfl
   have hcz14_6 : w3.cell? ⟨gb192, 6, none⟩ = some (.int .i64 a0_6) := (blk_cell BK192.out 6).trans rfl
   have hcz14_7 : w3.cell? ⟨gb192, 7, none⟩ = some (.int .i64 a0_7) := (blk_cell BK192.out 7).trans rfl
   have hcz14_8 : w3.cell? ⟨gb192, 8, none⟩ = some (.int .i64 a0_8) := (blk_cell BK192.out 8).trans rfl
   have hcz14_9 : w3.cell? ⟨gb192, 9, none⟩ = some (.int .i64 a0_9) := (blk_cell BK192.out 9).trans rfl
   have hcz14_10 : w3.cell? ⟨gb192, 10, none⟩ = some (.bool a0_10) := (blk_cell BK192.out 10).trans rfl
   have hfz14_0 := blk_frozen BK192.out 0
   have hfz14_1 := blk_frozen BK192.out 1
   have hfz14_2 := blk_frozen BK192.out 2
   have hfz14_3 := blk_frozen BK192.out 3
   have hfz14_4 := blk_frozen BK192.out 4
   have hfz14_5 := blk_frozen BK192.out 5
   have hfz14_6 := blk_frozen BK192.out 6
   have hfz14_7 := blk_frozen BK192.out 7
   have hfz14_8 := blk_frozen BK192.out 8
   have hfz14_9 := blk_frozen BK192.out 9
   have hfz14_10 := blk_frozen BK192.out 10
   go_wp2_with (first | (go_at_call 127; (with_reducible refine (impl_VecOk.calls a0_2 a0_3 a0_4 a0_5 true _ A6.out).mono ?_); rintro e w15 ⟨rfl, hb⟩; have n0_ := aM (blk_below (g := gb192) (o := .cells #[.bool true, .bool true, .int .i64 a0_2, .int .i64 a0_3, .int .i64 a0_4, .int .i64 a0_5, .int .i64 a0_6, .int .i64 a0_7, .int .i64 a0_8, .int .i64 a0_9, .bool a0_10] 109 (0, 0)) (by (with_reducible repeat (first | refine blk_drewN ?_ _ | refine blk_drew ?_ | refine blk_alloc ?_ _)); exact BK192.out) hb); have n1_ := aM (below_step (by repeat (first | (with_reducible first | exact HB.out | apply below_alloc | apply pw_below_drewN | apply below_drew1 | refine below_set ?_ GE192.out) | exact HB.out)) hb); clear BK192; clear HB; have BK192 := n0_; have HB := n1_; clear n0_ n1_; (try clear hb); (try clear hb2); (try clear hk); (try clear hi); have hcz16_0 : w15.cell? ⟨gb192, 0, none⟩ = some (.bool true) := (blk_cell BK192.out 0).trans rfl; have hcz16_1 : w15.cell? ⟨gb192, 1, none⟩ = some (.bool true) := (blk_cell BK192.out 1).trans rfl; have hcz16_2 : w15.cell? ⟨gb192, 2, none⟩ = some (.int .i64 a0_2) := (blk_cell BK192.out 2).trans rfl; have hcz16_3 : w15.cell? ⟨gb192, 3, none⟩ = some (.int .i64 a0_3) := (blk_cell BK192.out 3).trans rfl; have hcz16_4 : w15.cell? ⟨gb192, 4, none⟩ = some (.int .i64 a0_4) := (blk_cell BK192.out 4).trans rfl; have hcz16_5 : w15.cell? ⟨gb192, 5, none⟩ = some (.int .i64 a0_5) := (blk_cell BK192.out 5).trans rfl; have hcz16_6 : w15.cell? ⟨gb192, 6, none⟩ = some (.int .i64 a0_6) := (blk_cell BK192.out 6).trans rfl; have hcz16_7 : w15.cell? ⟨gb192, 7, none⟩ = some (.int .i64 a0_7) := (blk_cell BK192.out 7).trans rfl; have hcz16_8 : w15.cell? ⟨gb192, 8, none⟩ = some (.int .i64 a0_8) := (blk_cell BK192.out 8).trans rfl; have hcz16_9 : w15.cell? ⟨gb192, 9, none⟩ = some (.int .i64 a0_9) := (blk_cell BK192.out 9).trans rfl; have hcz16_10 : w15.cell? ⟨gb192, 10, none⟩ = some (.bool a0_10) := (blk_cell BK192.out 10).trans rfl; have hfz16_0 := blk_frozen BK192.out 0; have hfz16_1 := blk_frozen BK192.out 1; have hfz16_2 := blk_frozen BK192.out 2; have hfz16_3 := blk_frozen BK192.out 3; have hfz16_4 := blk_frozen BK192.out 4; have hfz16_5 := blk_frozen BK192.out 5; have hfz16_6 := blk_frozen BK192.out 6; have hfz16_7 := blk_frozen BK192.out 7; have hfz16_8 := blk_frozen BK192.out 8; have hfz16_9 := blk_frozen BK192.out 9; have hfz16_10 := blk_frozen BK192.out 10) | (go_at_call 128; (with_reducible refine (impl_isHops.calls a0_6 false _ A8.out).mono ?_); rintro e w' ⟨rfl, ⟨nd, rfl⟩⟩))
   go_meet
   case rel => exact ⟨_, (true), (by first | rfl | (simp; done) | (simp [*]; done)), H', ⟨by first | omega | exact Nat.le_refl _⟩, ⟨by (with_reducible repeat (first | refine blk_drewN ?_ _ | refine blk_drew ?_ | refine blk_alloc ?_ _)); exact BK192.out⟩, ⟨by repeat (first | (with_reducible first | exact HB.out | apply below_alloc | apply pw_below_drewN | apply below_drew1 | refine below_set ?_ GE192.out) | exact HB.out)⟩⟩
  subst c9
  have H1 : ((impl_inRange.f a0_7 1 3).bind fun t195 => (impl_PortOk.j0 k (!t195) true true a0_2 a0_3 a0_4 a0_5 a0_6 a0_7 a0_8 a0_9 a0_10)) = some r := by rw [if_pos rfl] at H; exact H
  clear H
  have H := H1
  clear H1
  replace H := Option.bind_eq_some_iff.mp H
  obtain ⟨t195, A100, H⟩ := H
  replace H : (impl_PortOk.j0 k (!t195) true true a0_2 a0_3 a0_4 a0_5 a0_6 a0_7 a0_8 a0_9 a0_10) = some r := H
  have A10 := aM A100
  clear A100
  have H' := aM H
  clear H
  have hcz11_0 : w3.cell? ⟨gb192, 0, none⟩ = some (.bool true) := (blk_cell BK192.out 0).trans rfl
  have hcz11_1 : w3.cell? ⟨gb192, 1, none⟩ = some (.bool true) := (blk_cell BK192.out 1).trans rfl
  have hcz11_2 : w3.cell? ⟨gb192, 2, none⟩ = some (.int .i64 a0_2) := (blk_cell BK192.out 2).trans rfl
  have hcz11_3 : w3.cell? ⟨gb192, 3, none⟩ = some (.int .i64 a0_3) := (blk_cell BK192.out 3).trans rfl
  have hcz11_4 : w3.cell? ⟨gb192, 4, none⟩ = some (.int .i64 a0_4) := (blk_cell BK192.out 4).trans rfl
  have hcz11_5 : w3.cell? ⟨gb192, 5, none⟩ = some (.int .i64 a0_5) := (blk_cell BK192.out 5).trans rfl
  have hcz11_6 : w3.cell? ⟨gb192, 6, none⟩ = some (.int .i64 a0_6) := (blk_cell BK192.out 6).trans rfl
  have hcz11_7 : w3.cell? ⟨gb192, 7, none⟩ = some (.int .i64 a0_7) := (blk_cell BK192.out 7).trans rfl
  have hcz11_8 : w3.cell? ⟨gb192, 8, none⟩ = some (.int .i64 a0_8) := (blk_cell BK192.out 8).trans rfl
  have hcz11_9 : w3.cell? ⟨gb192, 9, none⟩ = some (.int .i64 a0_9) := (blk_cell BK192.out 9).trans rfl
  have hcz11_10 : w3.cell? ⟨gb192, 10, none⟩ = some (.bool a0_10) := (blk_cell BK192.out 10).trans rfl
  have hfz11_0 := blk_frozen BK192.out 0
  have hfz11_1 := blk_frozen BK192.out 1
  have hfz11_2 := blk_frozen BK192.out 2
  have hfz11_3 := blk_frozen BK192.out 3
  have hfz11_4 := blk_frozen BK192.out 4
  have hfz11_5 := blk_frozen BK192.out 5
  have hfz11_6 := blk_frozen BK192.out 6
  have hfz11_7 := blk_frozen BK192.out 7
  have hfz11_8 := blk_frozen BK192.out 8
  have hfz11_9 := blk_frozen BK192.out 9
  have hfz11_10 := blk_frozen BK192.out 10
  go_wp2_with (first | (go_at_call 127; (with_reducible refine (impl_VecOk.calls a0_2 a0_3 a0_4 a0_5 true _ A6.out).mono ?_); rintro e w12 ⟨rfl, hb⟩; have n0_ := aM (blk_below (g := gb192) (o := .cells #[.bool true, .bool true, .int .i64 a0_2, .int .i64 a0_3, .int .i64 a0_4, .int .i64 a0_5, .int .i64 a0_6, .int .i64 a0_7, .int .i64 a0_8, .int .i64 a0_9, .bool a0_10] 109 (0, 0)) (by (with_reducible repeat (first | refine blk_drewN ?_ _ | refine blk_drew ?_ | refine blk_alloc ?_ _)); exact BK192.out) hb); have n1_ := aM (below_step (by repeat (first | (with_reducible first | exact HB.out | apply below_alloc | apply pw_below_drewN | apply below_drew1 | refine below_set ?_ GE192.out) | exact HB.out)) hb); clear BK192; clear HB; have BK192 := n0_; have HB := n1_; clear n0_ n1_; (try clear hb); (try clear hb2); (try clear hk); (try clear hi); have hcz13_0 : w12.cell? ⟨gb192, 0, none⟩ = some (.bool true) := (blk_cell BK192.out 0).trans rfl; have hcz13_1 : w12.cell? ⟨gb192, 1, none⟩ = some (.bool true) := (blk_cell BK192.out 1).trans rfl; have hcz13_2 : w12.cell? ⟨gb192, 2, none⟩ = some (.int .i64 a0_2) := (blk_cell BK192.out 2).trans rfl; have hcz13_3 : w12.cell? ⟨gb192, 3, none⟩ = some (.int .i64 a0_3) := (blk_cell BK192.out 3).trans rfl; have hcz13_4 : w12.cell? ⟨gb192, 4, none⟩ = some (.int .i64 a0_4) := (blk_cell BK192.out 4).trans rfl; have hcz13_5 : w12.cell? ⟨gb192, 5, none⟩ = some (.int .i64 a0_5) := (blk_cell BK192.out 5).trans rfl; have hcz13_6 : w12.cell? ⟨gb192, 6, none⟩ = some (.int .i64 a0_6) := (blk_cell BK192.out 6).trans rfl; have hcz13_7 : w12.cell? ⟨gb192, 7, none⟩ = some (.int .i64 a0_7) := (blk_cell BK192.out 7).trans rfl; have hcz13_8 : w12.cell? ⟨gb192, 8, none⟩ = some (.int .i64 a0_8) := (blk_cell BK192.out 8).trans rfl; have hcz13_9 : w12.cell? ⟨gb192, 9, none⟩ = some (.int .i64 a0_9) := (blk_cell BK192.out 9).trans rfl; have hcz13_10 : w12.cell? ⟨gb192, 10, none⟩ = some (.bool a0_10) := (blk_cell BK192.out 10).trans rfl; have hfz13_0 := blk_frozen BK192.out 0; have hfz13_1 := blk_frozen BK192.out 1; have hfz13_2 := blk_frozen BK192.out 2; have hfz13_3 := blk_frozen BK192.out 3; have hfz13_4 := blk_frozen BK192.out 4; have hfz13_5 := blk_frozen BK192.out 5; have hfz13_6 := blk_frozen BK192.out 6; have hfz13_7 := blk_frozen BK192.out 7; have hfz13_8 := blk_frozen BK192.out 8; have hfz13_9 := blk_frozen BK192.out 9; have hfz13_10 := blk_frozen BK192.out 10) | (go_at_call 128; (with_reducible refine (impl_isHops.calls a0_6 true _ A8.out).mono ?_); rintro e w' ⟨rfl, ⟨nd, rfl⟩⟩) | (go_at_call 106; (with_reducible refine (impl_inRange.calls a0_7 1 3 t195 _ A10.out).mono ?_); rintro e w' ⟨rfl, ⟨nd, rfl⟩⟩))
  go_meet
  case rel => exact ⟨_, (!t195), (by first | rfl | (simp; done) | (simp [*]; done)), H', ⟨by first | omega | exact Nat.le_refl _⟩, ⟨by (with_reducible repeat (first | refine blk_drewN ?_ _ | refine blk_drew ?_ | refine blk_alloc ?_ _)); exact BK192.out⟩, ⟨by repeat (first | (with_reducible first | exact HB.out | apply below_alloc | apply pw_below_drewN | apply below_drew1 | refine below_set ?_ GE192.out) | exact HB.out)⟩⟩
 case rest =>
  clear HC2
  try clear c1
  try clear p2
  try clear c4
  try clear c5
  try clear c7
  try clear c9
  try clear c11
  try clear hcz11_0
  try clear hcz11_1
  try clear hcz11_10
  try clear hcz11_2
  try clear hcz11_3
  try clear hcz11_4
  try clear hcz11_5
  try clear hcz11_6
  try clear hcz11_7
  try clear hcz11_8
  try clear hcz11_9
  try clear hcz13_0
  try clear hcz13_1
  try clear hcz13_10
  try clear hcz13_2
  try clear hcz13_3
  try clear hcz13_4
  try clear hcz13_5
  try clear hcz13_6
  try clear hcz13_7
  try clear hcz13_8
  try clear hcz13_9
  try clear hcz14_0
  try clear hcz14_1
  try clear hcz14_10
  try clear hcz14_2
  try clear hcz14_3
  try clear hcz14_4
  try clear hcz14_5
  try clear hcz14_6
  try clear hcz14_7
  try clear hcz14_8
  try clear hcz14_9
  try clear hcz16_0
  try clear hcz16_1
  try clear hcz16_10
  try clear hcz16_2
  try clear hcz16_3
  try clear hcz16_4
  try clear hcz16_5
  try clear hcz16_6
  try clear hcz16_7
  try clear hcz16_8
  try clear hcz16_9
  try clear hcz17_0
  try clear hcz17_1
  try clear hcz17_10
  try clear hcz17_2
  try clear hcz17_3
  try clear hcz17_4
  try clear hcz17_5
  try clear hcz17_6
  try clear hcz17_7
  try clear hcz17_8
  try clear hcz17_9
  try clear hcz19_0
  try clear hcz19_1
  try clear hcz19_10
  try clear hcz19_2
  try clear hcz19_3
  try clear hcz19_4
  try clear hcz19_5
  try clear hcz19_6
  try clear hcz19_7
  try clear hcz19_8
  try clear hcz19_9
  try clear hcz20_0
  try clear hcz20_1
  try clear hcz20_10
  try clear hcz20_2
  try clear hcz20_3
  try clear hcz20_4
  try clear hcz20_5
  try clear hcz20_6
  try clear hcz20_7
  try clear hcz20_8
  try clear hcz20_9
  try clear hfz11_0
  try clear hfz11_1
  try clear hfz11_10
  try clear hfz11_2
  try clear hfz11_3
  try clear hfz11_4
  try clear hfz11_5
  try clear hfz11_6
  try clear hfz11_7
  try clear hfz11_8
  try clear hfz11_9
  try clear hfz13_0
  try clear hfz13_1
  try clear hfz13_10
  try clear hfz13_2
  try clear hfz13_3
  try clear hfz13_4
  try clear hfz13_5
  try clear hfz13_6
  try clear hfz13_7
  try clear hfz13_8
  try clear hfz13_9
  try clear hfz14_0
  try clear hfz14_1
  try clear hfz14_10
  try clear hfz14_2
  try clear hfz14_3
  try clear hfz14_4
  try clear hfz14_5
  try clear hfz14_6
  try clear hfz14_7
  try clear hfz14_8
  try clear hfz14_9
  try clear hfz16_0
  try clear hfz16_1
  try clear hfz16_10
  try clear hfz16_2
  try clear hfz16_3
  try clear hfz16_4
  try clear hfz16_5
  try clear hfz16_6
  try clear hfz16_7
  try clear hfz16_8
  try clear hfz16_9
  try clear hfz17_0
  try clear hfz17_1
  try clear hfz17_10
  try clear hfz17_2
  try clear hfz17_3
  try clear hfz17_4
  try clear hfz17_5
  try clear hfz17_6
  try clear hfz17_7
  try clear hfz17_8
  try clear hfz17_9
  try clear hfz19_0
  try clear hfz19_1
  try clear hfz19_10
  try clear hfz19_2
  try clear hfz19_3
  try clear hfz19_4
  try clear hfz19_5
  try clear hfz19_6
  try clear hfz19_7
  try clear hfz19_8
  try clear hfz19_9
  try clear hfz20_0
  try clear hfz20_1
  try clear hfz20_10
  try clear hfz20_2
  try clear hfz20_3
  try clear hfz20_4
  try clear hfz20_5
  try clear hfz20_6
  try clear hfz20_7
  try clear hfz20_8
  try clear hfz20_9
  obtain ⟨kq, x27_1, rfl, HA, HJ1, BK192, HB⟩ := hcut
  cases kq with
  | zero => exact absurd HA.out (by simp [impl_PortOk.j0])
  | succ kj1 =>
   have H := HA.out
   clear HA
   simp only [impl_PortOk.j0] at H
   by_cases c21 : x27_1 = true
   case pos =>
    subst c21
    have H1 : (some false) = some r := by rw [if_pos rfl] at H; exact H
    clear H
    have H := H1
    clear H1
    obtain rfl := Option.some.inj H
    go_wp2
    go_ret
    exact ⟨by first | rfl | (simp [errW_none, errW_some] <;> rfl) | (simp [*, errW_none, errW_some] <;> rfl), by repeat (first | (with_reducible first | exact HB.out | apply below_alloc | apply pw_below_drewN | apply below_drew1 | refine below_set ?_ GE192.out) | exact HB.out)⟩
   replace c21 := Bool.eq_false_iff.mpr c21
   subst c21
   have H1 : (if a0_1 = true then (impl_PortOk.j1 kj1 false a0_0 a0_1 a0_2 a0_3 a0_4 a0_5 a0_6 a0_7 a0_8 a0_9 a0_10) else (if (!(a0_2 == 0) || (!(a0_3 == 0) || (!(a0_4 == 0) || (!(a0_5 == 0))))) = true then (impl_PortOk.j1 kj1 true a0_0 a0_1 a0_2 a0_3 a0_4 a0_5 a0_6 a0_7 a0_8 a0_9 a0_10) else (if a0_6 = 0 then (impl_PortOk.j1 kj1 (a0_7 != 0) a0_0 a0_1 a0_2 a0_3 a0_4 a0_5 a0_6 a0_7 a0_8 a0_9 a0_10) else (impl_PortOk.j1 kj1 true a0_0 a0_1 a0_2 a0_3 a0_4 a0_5 a0_6 a0_7 a0_8 a0_9 a0_10)))) = some r := by rw [if_neg (show ¬ (false = true) by decide)] at H; exact H
   clear H
   have H := H1
   clear H1
   have HC22 := aM H
   clear H
   go_upto_region 3 with (fail)
   go_cut [46] (fun v46 wc => ∃ (kq : Nat) (x46_21 : Bool), v46 = .bool x46_21 ∧ Aside0 (impl_PortOk.j1 kq x46_21 a0_0 a0_1 a0_2 a0_3 a0_4 a0_5 a0_6 a0_7 a0_8 a0_9 a0_10 = some r) ∧ Aside0 (kq ≤ kj1) ∧ Aside0 (wc.heap[gb192]? = some (.cells #[.bool a0_0, .bool a0_1, .int .i64 a0_2, .int .i64 a0_3, .int .i64 a0_4, .int .i64 a0_5, .int .i64 a0_6, .int .i64 a0_7, .int .i64 a0_8, .int .i64 a0_9, .bool a0_10] 109 (0, 0))) ∧ Aside0 (Below w.heap.size w wc))
   case first =>
    have H := HC22.out
    clear HC22
    by_cases c23 : a0_1 = true
    case pos =>
     subst c23
     have H1 : (impl_PortOk.j1 kj1 false a0_0 true a0_2 a0_3 a0_4 a0_5 a0_6 a0_7 a0_8 a0_9 a0_10) = some r := by rw [if_pos rfl] at H; exact H
     clear H
     have H := H1
     clear H1
     have H' := aM H
     clear H
     have hcz24_0 : wc.cell? ⟨gb192, 0, none⟩ = some (.bool a0_0) := (blk_cell BK192.out 0).trans rfl
     have hcz24_1 : wc.cell? ⟨gb192, 1, none⟩ = some (.bool true) := (blk_cell BK192.out 1).trans rfl
     have hcz24_2 : wc.cell? ⟨gb192, 2, none⟩ = some (.int .i64 a0_2) := (blk_cell BK192.out 2).trans rfl
     have hcz24_3 : wc.cell? ⟨gb192, 3, none⟩ = some (.int .i64 a0_3) := (blk_cell BK192.out 3).trans rfl
     have hcz24_4 : wc.cell? ⟨gb192, 4, none⟩ = some (.int .i64 a0_4) := (blk_cell BK192.out 4).trans rfl
     have hcz24_5 : wc.cell? ⟨gb192, 5, none⟩ = some (.int .i64 a0_5) := (blk_cell BK192.out 5).trans rfl
     have hcz24_6 : wc.cell? ⟨gb192, 6, none⟩ = some (.int .i64 a0_6) := (blk_cell BK192.out 6).trans rfl
     have hcz24_7 : wc.cell? ⟨gb192, 7, none⟩ = some (.int .i64 a0_7) := (blk_cell BK192.out 7).trans rfl
     have hcz24_8 : wc.cell? ⟨gb192, 8, none⟩ = some (.int .i64 a0_8) := (blk_cell BK192.out 8).trans rfl
     have hcz24_9 : wc.cell? ⟨gb192, 9, none⟩ = some (.int .i64 a0_9) := (blk_cell BK192.out 9).trans rfl
     have hcz24_10 : wc.cell? ⟨gb192, 10, none⟩ = some (.bool a0_10) := (blk_cell BK192.out 10).trans rfl
     have hfz24_0 := blk_frozen BK192.out 0
     have hfz24_1 := blk_frozen BK192.out 1
     have hfz24_2 := blk_frozen BK192.out 2
     have hfz24_3 := blk_frozen BK192.out 3
     have hfz24_4 := blk_frozen BK192.out 4
     have hfz24_5 := blk_frozen BK192.out 5
     have hfz24_6 := blk_frozen BK192.out 6
     have hfz24_7 := blk_frozen BK192.out 7
     have hfz24_8 := blk_frozen BK192.out 8
     have hfz24_9 := blk_frozen BK192.out 9
     have hfz24_10 := blk_frozen BK192.out 10
     go_wp2
     go_meet
     case rel => exact ⟨_, (false), (by first | rfl | (simp; done) | (simp [*]; done)), H', ⟨by have := HJ1.out; first | omega | exact Nat.le_refl _⟩, ⟨by (with_reducible repeat (first | refine blk_drewN ?_ _ | refine blk_drew ?_ | refine blk_alloc ?_ _)); exact BK192.out⟩, ⟨by repeat (first | (with_reducible first | exact HB.out | apply below_alloc | apply pw_below_drewN | apply below_drew1 | refine below_set ?_ GE192.out) | exact HB.out)⟩⟩
    replace c23 := Bool.eq_false_iff.mpr c23
    subst c23
    have H1 : (if (!(a0_2 == 0) || (!(a0_3 == 0) || (!(a0_4 == 0) || (!(a0_5 == 0))))) = true then (impl_PortOk.j1 kj1 true a0_0 false a0_2 a0_3 a0_4 a0_5 a0_6 a0_7 a0_8 a0_9 a0_10) else (if a0_6 = 0 then (impl_PortOk.j1 kj1 (a0_7 != 0) a0_0 false a0_2 a0_3 a0_4 a0_5 a0_6 a0_7 a0_8 a0_9 a0_10) else (impl_PortOk.j1 kj1 true a0_0 false a0_2 a0_3 a0_4 a0_5 a0_6 a0_7 a0_8 a0_9 a0_10))) = some r := by rw [if_neg (show ¬ (false = true) by decide)] at H; exact H
    clear H
    have H := H1
    clear H1
    by_cases c25 : (!(a0_2 == 0) || (!(a0_3 == 0) || (!(a0_4 == 0) || (!(a0_5 == 0))))) = true
    case pos =>
     rw [if_pos c25] at H
     have c25b0 : (!(a0_2 == 0) || (!(a0_3 == 0) || (!(a0_4 == 0) || (!(a0_5 == 0))))) = true := c25
     clear c25
     (first | rw [c25b0] | (simp only [i64_w, i32_w]; rw [c25b0]) | skip)
     have H' := aM H
     clear H
     have hcz26_0 : wc.cell? ⟨gb192, 0, none⟩ = some (.bool a0_0) := (blk_cell BK192.out 0).trans rfl
     have hcz26_1 : wc.cell? ⟨gb192, 1, none⟩ = some (.bool false) := (blk_cell BK192.out 1).trans rfl
     have hcz26_2 : wc.cell? ⟨gb192, 2, none⟩ = some (.int .i64 a0_2) := (blk_cell BK192.out 2).trans rfl
     have hcz26_3 : wc.cell? ⟨gb192, 3, none⟩ = some (.int .i64 a0_3) := (blk_cell BK192.out 3).trans rfl
     have hcz26_4 : wc.cell? ⟨gb192, 4, none⟩ = some (.int .i64 a0_4) := (blk_cell BK192.out 4).trans rfl
     have hcz26_5 : wc.cell? ⟨gb192, 5, none⟩ = some (.int .i64 a0_5) := (blk_cell BK192.out 5).trans rfl
     have hcz26_6 : wc.cell? ⟨gb192, 6, none⟩ = some (.int .i64 a0_6) := (blk_cell BK192.out 6).trans rfl
     have hcz26_7 : wc.cell? ⟨gb192, 7, none⟩ = some (.int .i64 a0_7) := (blk_cell BK192.out 7).trans rfl
     have hcz26_8 : wc.cell? ⟨gb192, 8, none⟩ = some (.int .i64 a0_8) := (blk_cell BK192.out 8).trans rfl
     have hcz26_9 : wc.cell? ⟨gb192, 9, none⟩ = some (.int .i64 a0_9) := (blk_cell BK192.out 9).trans rfl
     have hcz26_10 : wc.cell? ⟨gb192, 10, none⟩ = some (.bool a0_10) := (blk_cell BK192.out 10).trans rfl
     have hfz26_0 := blk_frozen BK192.out 0
     have hfz26_1 := blk_frozen BK192.out 1
     have hfz26_2 := blk_frozen BK192.out 2
     have hfz26_3 := blk_frozen BK192.out 3
     have hfz26_4 := blk_frozen BK192.out 4
     have hfz26_5 := blk_frozen BK192.out 5
     have hfz26_6 := blk_frozen BK192.out 6
     have hfz26_7 := blk_frozen BK192.out 7
     have hfz26_8 := blk_frozen BK192.out 8
     have hfz26_9 := blk_frozen BK192.out 9
     have hfz26_10 := blk_frozen BK192.out 10
     go_wp2
     go_meet
     case rel => exact ⟨_, (true), (by first | rfl | (simp; done) | (simp [*]; done)), H', ⟨by have := HJ1.out; first | omega | exact Nat.le_refl _⟩, ⟨by (with_reducible repeat (first | refine blk_drewN ?_ _ | refine blk_drew ?_ | refine blk_alloc ?_ _)); exact BK192.out⟩, ⟨by repeat (first | (with_reducible first | exact HB.out | apply below_alloc | apply pw_below_drewN | apply below_drew1 | refine below_set ?_ GE192.out) | exact HB.out)⟩⟩
    rw [if_neg c25] at H
    have c25b0 : (!(a0_2 == 0) || (!(a0_3 == 0) || (!(a0_4 == 0) || (!(a0_5 == 0))))) = false := by simpa using c25
    clear c25
    (first | rw [c25b0] | (simp only [i64_w, i32_w]; rw [c25b0]) | skip)
    by_cases c27 : a0_6 = 0
    case neg =>
     rw [if_neg c27] at H
     have c27b0 : (a0_6 == 0) = false := beq_eq_false_iff_ne.mpr c27
     have c27b1 : (a0_6 != 0) = true := bne_iff_ne.mpr c27
     have H' := aM H
     clear H
     have hcz29_0 : wc.cell? ⟨gb192, 0, none⟩ = some (.bool a0_0) := (blk_cell BK192.out 0).trans rfl
     have hcz29_1 : wc.cell? ⟨gb192, 1, none⟩ = some (.bool false) := (blk_cell BK192.out 1).trans rfl
     have hcz29_2 : wc.cell? ⟨gb192, 2, none⟩ = some (.int .i64 a0_2) := (blk_cell BK192.out 2).trans rfl
     have hcz29_3 : wc.cell? ⟨gb192, 3, none⟩ = some (.int .i64 a0_3) := (blk_cell BK192.out 3).trans rfl
     have hcz29_4 : wc.cell? ⟨gb192, 4, none⟩ = some (.int .i64 a0_4) := (blk_cell BK192.out 4).trans rfl
     have hcz29_5 : wc.cell? ⟨gb192, 5, none⟩ = some (.int .i64 a0_5) := (blk_cell BK192.out 5).trans rfl
     have hcz29_6 : wc.cell? ⟨gb192, 6, none⟩ = some (.int .i64 a0_6) := (blk_cell BK192.out 6).trans rfl
     have hcz29_7 : wc.cell? ⟨gb192, 7, none⟩ = some (.int .i64 a0_7) := (blk_cell BK192.out 7).trans rfl
     have hcz29_8 : wc.cell? ⟨gb192, 8, none⟩ = some (.int .i64 a0_8) := (blk_cell BK192.out 8).trans rfl
     have hcz29_9 : wc.cell? ⟨gb192, 9, none⟩ = some (.int .i64 a0_9) := (blk_cell BK192.out 9).trans rfl
     have hcz29_10 : wc.cell? ⟨gb192, 10, none⟩ = some (.bool a0_10) := (blk_cell BK192.out 10).trans rfl
     have hfz29_0 := blk_frozen BK192.out 0
     have hfz29_1 := blk_frozen BK192.out 1
     have hfz29_2 := blk_frozen BK192.out 2
     have hfz29_3 := blk_frozen BK192.out 3
     have hfz29_4 := blk_frozen BK192.out 4
     have hfz29_5 := blk_frozen BK192.out 5
     have hfz29_6 := blk_frozen BK192.out 6
     have hfz29_7 := blk_frozen BK192.out 7
     have hfz29_8 := blk_frozen BK192.out 8
     have hfz29_9 := blk_frozen BK192.out 9
     have hfz29_10 := blk_frozen BK192.out 10
     go_wp2
     go_meet
     case rel => exact ⟨_, (true), (by first | rfl | (simp; done) | (simp [*]; done)), H', ⟨by have := HJ1.out; first | omega | exact Nat.le_refl _⟩, ⟨by (with_reducible repeat (first | refine blk_drewN ?_ _ | refine blk_drew ?_ | refine blk_alloc ?_ _)); exact BK192.out⟩, ⟨by repeat (first | (with_reducible first | exact HB.out | apply below_alloc | apply pw_below_drewN | apply below_drew1 | refine below_set ?_ GE192.out) | exact HB.out)⟩⟩
    rw [if_pos c27] at H
    have c27b0 : (a0_6 == 0) = true := beq_iff_eq.mpr c27
    have c27b1 : (a0_6 != 0) = false := bne_eq_false_iff_eq.mpr c27
    clear c27
    have H' := aM H
    clear H
    have hcz28_0 : wc.cell? ⟨gb192, 0, none⟩ = some (.bool a0_0) := (blk_cell BK192.out 0).trans rfl
    have hcz28_1 : wc.cell? ⟨gb192, 1, none⟩ = some (.bool false) := (blk_cell BK192.out 1).trans rfl
    have hcz28_2 : wc.cell? ⟨gb192, 2, none⟩ = some (.int .i64 a0_2) := (blk_cell BK192.out 2).trans rfl
    have hcz28_3 : wc.cell? ⟨gb192, 3, none⟩ = some (.int .i64 a0_3) := (blk_cell BK192.out 3).trans rfl
    have hcz28_4 : wc.cell? ⟨gb192, 4, none⟩ = some (.int .i64 a0_4) := (blk_cell BK192.out 4).trans rfl
    have hcz28_5 : wc.cell? ⟨gb192, 5, none⟩ = some (.int .i64 a0_5) := (blk_cell BK192.out 5).trans rfl
    have hcz28_6 : wc.cell? ⟨gb192, 6, none⟩ = some (.int .i64 a0_6) := (blk_cell BK192.out 6).trans rfl
    have hcz28_7 : wc.cell? ⟨gb192, 7, none⟩ = some (.int .i64 a0_7) := (blk_cell BK192.out 7).trans rfl
    have hcz28_8 : wc.cell? ⟨gb192, 8, none⟩ = some (.int .i64 a0_8) := (blk_cell BK192.out 8).trans rfl
    have hcz28_9 : wc.cell? ⟨gb192, 9, none⟩ = some (.int .i64 a0_9) := (blk_cell BK192.out 9).trans rfl
    have hcz28_10 : wc.cell? ⟨gb192, 10, none⟩ = some (.bool a0_10) := (blk_cell BK192.out 10).trans rfl
    have hfz28_0 := blk_frozen BK192.out 0
    have hfz28_1 := blk_frozen BK192.out 1
    have hfz28_2 := blk_frozen BK192.out 2
    have hfz28_3 := blk_frozen BK192.out 3
    have hfz28_4 := blk_frozen BK192.out 4
    have hfz28_5 := blk_frozen BK192.out 5
    have hfz28_6 := blk_frozen BK192.out 6
    have hfz28_7 := blk_frozen BK192.out 7
    have hfz28_8 := blk_frozen BK192.out 8
    have hfz28_9 := blk_frozen BK192.out 9
    have hfz28_10 := blk_frozen BK192.out 10
    go_wp2
    go_meet
    case rel => exact ⟨_, ((a0_7 != 0)), (by first | rfl | (simp; done) | (simp [*]; done)), H', ⟨by have := HJ1.out; first | omega | exact Nat.le_refl _⟩, ⟨by (with_reducible repeat (first | refine blk_drewN ?_ _ | refine blk_drew ?_ | refine blk_alloc ?_ _)); exact BK192.out⟩, ⟨by repeat (first | (with_reducible first | exact HB.out | apply below_alloc | apply pw_below_drewN | apply below_drew1 | refine below_set ?_ GE192.out) | exact HB.out)⟩⟩
   case rest =>
    clear HC22
    try clear c1
    try clear c2
    try clear p2
    try clear c4
    try clear c5
    try clear c7
    try clear c9
    try clear c11
    try clear c21
    try clear c23
    try clear c25
    try clear c25b0
    try clear c27
    try clear c27b0
    try clear c27b1
    try clear hcz11_0
    try clear hcz11_1
    try clear hcz11_10
    try clear hcz11_2
    try clear hcz11_3
    try clear hcz11_4
    try clear hcz11_5
    try clear hcz11_6
    try clear hcz11_7
    try clear hcz11_8
    try clear hcz11_9
    try clear hcz13_0
    try clear hcz13_1
    try clear hcz13_10
    try clear hcz13_2
    try clear hcz13_3
    try clear hcz13_4
    try clear hcz13_5
    try clear hcz13_6
    try clear hcz13_7
    try clear hcz13_8
    try clear hcz13_9
    try clear hcz14_0
    try clear hcz14_1
    try clear hcz14_10
    try clear hcz14_2
    try clear hcz14_3
    try clear hcz14_4
    try clear hcz14_5
    try clear hcz14_6
    try clear hcz14_7
    try clear hcz14_8
    try clear hcz14_9
    try clear hcz16_0
    try clear hcz16_1
    try clear hcz16_10
    try clear hcz16_2
    try clear hcz16_3
    try clear hcz16_4
    try clear hcz16_5
    try clear hcz16_6
    try clear hcz16_7
    try clear hcz16_8
    try clear hcz16_9
    try clear hcz17_0
    try clear hcz17_1
    try clear hcz17_10
    try clear hcz17_2
    try clear hcz17_3
    try clear hcz17_4
    try clear hcz17_5
    try clear hcz17_6
    try clear hcz17_7
    try clear hcz17_8
    try clear hcz17_9
    try clear hcz19_0
    try clear hcz19_1
    try clear hcz19_10
    try clear hcz19_2
    try clear hcz19_3
    try clear hcz19_4
    try clear hcz19_5
    try clear hcz19_6
    try clear hcz19_7
    try clear hcz19_8
    try clear hcz19_9
    try clear hcz20_0
    try clear hcz20_1
    try clear hcz20_10
    try clear hcz20_2
    try clear hcz20_3
    try clear hcz20_4
    try clear hcz20_5
    try clear hcz20_6
    try clear hcz20_7
    try clear hcz20_8
    try clear hcz20_9
    try clear hcz24_0
    try clear hcz24_1
    try clear hcz24_10
    try clear hcz24_2
    try clear hcz24_3
    try clear hcz24_4
    try clear hcz24_5
    try clear hcz24_6
    try clear hcz24_7
    try clear hcz24_8
    try clear hcz24_9
    try clear hcz26_0
    try clear hcz26_1
    try clear hcz26_10
    try clear hcz26_2
    try clear hcz26_3
    try clear hcz26_4
    try clear hcz26_5
    try clear hcz26_6
    try clear hcz26_7
    try clear hcz26_8
    try clear hcz26_9
    try clear hcz28_0
    try clear hcz28_1
    try clear hcz28_10
    try clear hcz28_2
    try clear hcz28_3
    try clear hcz28_4
    try clear hcz28_5
    try clear hcz28_6
    try clear hcz28_7
    try clear hcz28_8
    try clear hcz28_9
    try clear hcz29_0
    try clear hcz29_1
    try clear hcz29_10
    try clear hcz29_2
    try clear hcz29_3
    try clear hcz29_4
    try clear hcz29_5
    try clear hcz29_6
    try clear hcz29_7
    try clear hcz29_8
    try clear hcz29_9
    try clear hfz11_0
    try clear hfz11_1
    try clear hfz11_10
    try clear hfz11_2
    try clear hfz11_3
    try clear hfz11_4
    try clear hfz11_5
    try clear hfz11_6
    try clear hfz11_7
    try clear hfz11_8
    try clear hfz11_9
    try clear hfz13_0
    try clear hfz13_1
    try clear hfz13_10
    try clear hfz13_2
    try clear hfz13_3
    try clear hfz13_4
    try clear hfz13_5
    try clear hfz13_6
    try clear hfz13_7
    try clear hfz13_8
    try clear hfz13_9
    try clear hfz14_0
    try clear hfz14_1
    try clear hfz14_10
    try clear hfz14_2
    try clear hfz14_3
    try clear hfz14_4
    try clear hfz14_5
    try clear hfz14_6
    try clear hfz14_7
    try clear hfz14_8
    try clear hfz14_9
    try clear hfz16_0
    try clear hfz16_1
    try clear hfz16_10
    try clear hfz16_2
    try clear hfz16_3
    try clear hfz16_4
    try clear hfz16_5
    try clear hfz16_6
    try clear hfz16_7
    try clear hfz16_8
    try clear hfz16_9
    try clear hfz17_0
    try clear hfz17_1
    try clear hfz17_10
    try clear hfz17_2
    try clear hfz17_3
    try clear hfz17_4
    try clear hfz17_5
    try clear hfz17_6
    try clear hfz17_7
    try clear hfz17_8
    try clear hfz17_9
    try clear hfz19_0
    try clear hfz19_1
    try clear hfz19_10
    try clear hfz19_2
    try clear hfz19_3
    try clear hfz19_4
    try clear hfz19_5
    try clear hfz19_6
    try clear hfz19_7
    try clear hfz19_8
    try clear hfz19_9
    try clear hfz20_0
    try clear hfz20_1
    try clear hfz20_10
    try clear hfz20_2
    try clear hfz20_3
    try clear hfz20_4
    try clear hfz20_5
    try clear hfz20_6
    try clear hfz20_7
    try clear hfz20_8
    try clear hfz20_9
    try clear hfz24_0
    try clear hfz24_1
    try clear hfz24_10
    try clear hfz24_2
    try clear hfz24_3
    try clear hfz24_4
    try clear hfz24_5
    try clear hfz24_6
    try clear hfz24_7
    try clear hfz24_8
    try clear hfz24_9
    try clear hfz26_0
    try clear hfz26_1
    try clear hfz26_10
    try clear hfz26_2
    try clear hfz26_3
    try clear hfz26_4
    try clear hfz26_5
    try clear hfz26_6
    try clear hfz26_7
    try clear hfz26_8
    try clear hfz26_9
    try clear hfz28_0
    try clear hfz28_1
    try clear hfz28_10
    try clear hfz28_2
    try clear hfz28_3
    try clear hfz28_4
    try clear hfz28_5
    try clear hfz28_6
    try clear hfz28_7
    try clear hfz28_8
    try clear hfz28_9
    try clear hfz29_0
    try clear hfz29_1
    try clear hfz29_10
    try clear hfz29_2
    try clear hfz29_3
    try clear hfz29_4
    try clear hfz29_5
    try clear hfz29_6
    try clear hfz29_7
    try clear hfz29_8
    try clear hfz29_9
    try clear p2
    obtain ⟨kq, x46_21, rfl, HA, HJ21, BK192, HB⟩ := hcut
    cases kq with
    | zero => exact absurd HA.out (by simp [impl_PortOk.j1])
    | succ kj21 =>
     have H := HA.out
     clear HA
     simp only [impl_PortOk.j1] at H
     by_cases c30 : x46_21 = true
     case pos =>
      subst c30
      have H1 : (some false) = some r := by rw [if_pos rfl] at H; exact H
      clear H
      have H := H1
      clear H1
      obtain rfl := Option.some.inj H
      go_wp2
      go_ret
      exact ⟨by first | rfl | (simp [errW_none, errW_some] <;> rfl) | (simp [*, errW_none, errW_some] <;> rfl), by repeat (first | (with_reducible first | exact HB.out | apply below_alloc | apply pw_below_drewN | apply below_drew1 | refine below_set ?_ GE192.out) | exact HB.out)⟩
     replace c30 := Bool.eq_false_iff.mpr c30
     subst c30
     have H1 : ((impl_inRange.f a0_8 0 3).bind fun t196 => (if t196 = true then (if ((a0_8 == 0) == a0_0) = true then (some false) else ((impl_inRange.f a0_9 0 4).bind fun t197 => (if t197 = true then ((impl_Port_isOpenBy.f a0_0 a0_1 a0_2 a0_3 a0_4 a0_5 a0_6 a0_7 a0_8 a0_9 a0_10).bind fun t198 => (some (a0_10 == t198))) else (some false)))) else (some false))) = some r := by rw [if_neg (show ¬ (false = true) by decide)] at H; exact H
     clear H
     have H := H1
     clear H1
     replace H := Option.bind_eq_some_iff.mp H
     obtain ⟨t196, A310, H⟩ := H
     replace H : (if t196 = true then (if ((a0_8 == 0) == a0_0) = true then (some false) else ((impl_inRange.f a0_9 0 4).bind fun t197 => (if t197 = true then ((impl_Port_isOpenBy.f a0_0 a0_1 a0_2 a0_3 a0_4 a0_5 a0_6 a0_7 a0_8 a0_9 a0_10).bind fun t198 => (some (a0_10 == t198))) else (some false)))) else (some false)) = some r := H
     have A31 := aM A310
     clear A310
     by_cases c32 : t196 = true
     case neg =>
      replace c32 := Bool.eq_false_iff.mpr c32
      subst c32
      have H1 : (some false) = some r := by rw [if_neg (show ¬ (false = true) by decide)] at H; exact H
      clear H
      have H := H1
      clear H1
      obtain rfl := Option.some.inj H
      have hcz42_0 : wc.cell? ⟨gb192, 0, none⟩ = some (.bool a0_0) := (blk_cell BK192.out 0).trans rfl
      have hcz42_1 : wc.cell? ⟨gb192, 1, none⟩ = some (.bool a0_1) := (blk_cell BK192.out 1).trans rfl
      have hcz42_2 : wc.cell? ⟨gb192, 2, none⟩ = some (.int .i64 a0_2) := (blk_cell BK192.out 2).trans rfl
      have hcz42_3 : wc.cell? ⟨gb192, 3, none⟩ = some (.int .i64 a0_3) := (blk_cell BK192.out 3).trans rfl
      have hcz42_4 : wc.cell? ⟨gb192, 4, none⟩ = some (.int .i64 a0_4) := (blk_cell BK192.out 4).trans rfl
      have hcz42_5 : wc.cell? ⟨gb192, 5, none⟩ = some (.int .i64 a0_5) := (blk_cell BK192.out 5).trans rfl
      have hcz42_6 : wc.cell? ⟨gb192, 6, none⟩ = some (.int .i64 a0_6) := (blk_cell BK192.out 6).trans rfl
      have hcz42_7 : wc.cell? ⟨gb192, 7, none⟩ = some (.int .i64 a0_7) := (blk_cell BK192.out 7).trans rfl
      have hcz42_8 : wc.cell? ⟨gb192, 8, none⟩ = some (.int .i64 a0_8) := (blk_cell BK192.out 8).trans rfl
      have hcz42_9 : wc.cell? ⟨gb192, 9, none⟩ = some (.int .i64 a0_9) := (blk_cell BK192.out 9).trans rfl
      have hcz42_10 : wc.cell? ⟨gb192, 10, none⟩ = some (.bool a0_10) := (blk_cell BK192.out 10).trans rfl
      have hfz42_0 := blk_frozen BK192.out 0
      have hfz42_1 := blk_frozen BK192.out 1
      have hfz42_2 := blk_frozen BK192.out 2
      have hfz42_3 := blk_frozen BK192.out 3
      have hfz42_4 := blk_frozen BK192.out 4
      have hfz42_5 := blk_frozen BK192.out 5
      have hfz42_6 := blk_frozen BK192.out 6
      have hfz42_7 := blk_frozen BK192.out 7
      have hfz42_8 := blk_frozen BK192.out 8
      have hfz42_9 := blk_frozen BK192.out 9
      have hfz42_10 := blk_frozen BK192.out 10
      go_wp2_with (first | ((with_reducible refine gate_callee (f := 106) rfl ?_); refine goesL_ (some 49) rfl rfl Try.func106 (by kernel_rfl) rfl #[.int .i64 a0_8, .int .i64 0, .int .i64 3] rfl (by (try simp only [List.map_toArray, List.map_cons, List.map_nil]); first | done | rfl | (simp only [List.length_drop, List.length_take]; rfl)) ?_; (with_reducible refine (impl_inRange.calls a0_8 0 3 false _ A31.out).mono ?_); rintro e w' ⟨rfl, ⟨nd, rfl⟩⟩; refine ⟨_, rfl, ?_⟩))
      go_ret
      exact ⟨by first | rfl | (simp [errW_none, errW_some] <;> rfl) | (simp [*, errW_none, errW_some] <;> rfl), by repeat (first | (with_reducible first | exact HB.out | apply below_alloc | apply pw_below_drewN | apply below_drew1 | refine below_set ?_ GE192.out) | exact HB.out)⟩
     subst c32
     have H1 : (if ((a0_8 == 0) == a0_0) = true then (some false) else ((impl_inRange.f a0_9 0 4).bind fun t197 => (if t197 = true then ((impl_Port_isOpenBy.f a0_0 a0_1 a0_2 a0_3 a0_4 a0_5 a0_6 a0_7 a0_8 a0_9 a0_10).bind fun t198 => (some (a0_10 == t198))) else (some false)))) = some r := by rw [if_pos rfl] at H; exact H
     clear H
     have H := H1
     clear H1
     by_cases c33 : ((a0_8 == 0) == a0_0) = true
     case pos =>
      rw [if_pos c33] at H
      have c33b0 : ((a0_8 == 0) == a0_0) = true := c33
      (try (have c33b1 : decide ((a0_8 == 0) = a0_0) = true := by simpa using c33))
      (try (have c33b2 : ((a0_8 == 0) == a0_0) = true := by simpa using c33))
      clear c33
      obtain rfl := Option.some.inj H
      have hcz34_0 : wc.cell? ⟨gb192, 0, none⟩ = some (.bool a0_0) := (blk_cell BK192.out 0).trans rfl
      have hcz34_1 : wc.cell? ⟨gb192, 1, none⟩ = some (.bool a0_1) := (blk_cell BK192.out 1).trans rfl
      have hcz34_2 : wc.cell? ⟨gb192, 2, none⟩ = some (.int .i64 a0_2) := (blk_cell BK192.out 2).trans rfl
      have hcz34_3 : wc.cell? ⟨gb192, 3, none⟩ = some (.int .i64 a0_3) := (blk_cell BK192.out 3).trans rfl
      have hcz34_4 : wc.cell? ⟨gb192, 4, none⟩ = some (.int .i64 a0_4) := (blk_cell BK192.out 4).trans rfl
      have hcz34_5 : wc.cell? ⟨gb192, 5, none⟩ = some (.int .i64 a0_5) := (blk_cell BK192.out 5).trans rfl
      have hcz34_6 : wc.cell? ⟨gb192, 6, none⟩ = some (.int .i64 a0_6) := (blk_cell BK192.out 6).trans rfl
      have hcz34_7 : wc.cell? ⟨gb192, 7, none⟩ = some (.int .i64 a0_7) := (blk_cell BK192.out 7).trans rfl
      have hcz34_8 : wc.cell? ⟨gb192, 8, none⟩ = some (.int .i64 a0_8) := (blk_cell BK192.out 8).trans rfl
      have hcz34_9 : wc.cell? ⟨gb192, 9, none⟩ = some (.int .i64 a0_9) := (blk_cell BK192.out 9).trans rfl
      have hcz34_10 : wc.cell? ⟨gb192, 10, none⟩ = some (.bool a0_10) := (blk_cell BK192.out 10).trans rfl
      have hfz34_0 := blk_frozen BK192.out 0
      have hfz34_1 := blk_frozen BK192.out 1
      have hfz34_2 := blk_frozen BK192.out 2
      have hfz34_3 := blk_frozen BK192.out 3
      have hfz34_4 := blk_frozen BK192.out 4
      have hfz34_5 := blk_frozen BK192.out 5
      have hfz34_6 := blk_frozen BK192.out 6
      have hfz34_7 := blk_frozen BK192.out 7
      have hfz34_8 := blk_frozen BK192.out 8
      have hfz34_9 := blk_frozen BK192.out 9
      have hfz34_10 := blk_frozen BK192.out 10
      go_wp2_with (first | ((with_reducible refine gate_callee (f := 106) rfl ?_); refine goesL_ (some 49) rfl rfl Try.func106 (by kernel_rfl) rfl #[.int .i64 a0_8, .int .i64 0, .int .i64 3] rfl (by (try simp only [List.map_toArray, List.map_cons, List.map_nil]); first | done | rfl | (simp only [List.length_drop, List.length_take]; rfl)) ?_; (with_reducible refine (impl_inRange.calls a0_8 0 3 true _ A31.out).mono ?_); rintro e w' ⟨rfl, ⟨nd, rfl⟩⟩; refine ⟨_, rfl, ?_⟩))
      go_ret
      exact ⟨by first | rfl | (simp [errW_none, errW_some] <;> rfl) | (simp [*, errW_none, errW_some] <;> rfl), by repeat (first | (with_reducible first | exact HB.out | apply below_alloc | apply pw_below_drewN | apply below_drew1 | refine below_set ?_ GE192.out) | exact HB.out)⟩
     rw [if_neg c33] at H
     have c33b0 : ((a0_8 == 0) == a0_0) = false := by simpa using c33
     (try (have c33b1 : decide ((a0_8 == 0) = a0_0) = false := by simpa using c33))
     (try (have c33b2 : ((a0_8 == 0) == a0_0) = false := by simpa using c33))
     (try (have c33b3 : ¬ ((a0_8 == 0) = a0_0) := by simpa using c33))
     clear c33
     replace H := Option.bind_eq_some_iff.mp H
     obtain ⟨t197, A350, H⟩ := H
     replace H : (if t197 = true then ((impl_Port_isOpenBy.f a0_0 a0_1 a0_2 a0_3 a0_4 a0_5 a0_6 a0_7 a0_8 a0_9 a0_10).bind fun t198 => (some (a0_10 == t198))) else (some false)) = some r := H
     have A35 := aM A350
     clear A350
     by_cases c36 : t197 = true
     case neg =>
      replace c36 := Bool.eq_false_iff.mpr c36
      subst c36
      have H1 : (some false) = some r := by rw [if_neg (show ¬ (false = true) by decide)] at H; exact H
      clear H
      have H := H1
      clear H1
      obtain rfl := Option.some.inj H
      have hcz41_0 : wc.cell? ⟨gb192, 0, none⟩ = some (.bool a0_0) := (blk_cell BK192.out 0).trans rfl
      have hcz41_1 : wc.cell? ⟨gb192, 1, none⟩ = some (.bool a0_1) := (blk_cell BK192.out 1).trans rfl
      have hcz41_2 : wc.cell? ⟨gb192, 2, none⟩ = some (.int .i64 a0_2) := (blk_cell BK192.out 2).trans rfl
      have hcz41_3 : wc.cell? ⟨gb192, 3, none⟩ = some (.int .i64 a0_3) := (blk_cell BK192.out 3).trans rfl
      have hcz41_4 : wc.cell? ⟨gb192, 4, none⟩ = some (.int .i64 a0_4) := (blk_cell BK192.out 4).trans rfl
      have hcz41_5 : wc.cell? ⟨gb192, 5, none⟩ = some (.int .i64 a0_5) := (blk_cell BK192.out 5).trans rfl
      have hcz41_6 : wc.cell? ⟨gb192, 6, none⟩ = some (.int .i64 a0_6) := (blk_cell BK192.out 6).trans rfl
      have hcz41_7 : wc.cell? ⟨gb192, 7, none⟩ = some (.int .i64 a0_7) := (blk_cell BK192.out 7).trans rfl
      have hcz41_8 : wc.cell? ⟨gb192, 8, none⟩ = some (.int .i64 a0_8) := (blk_cell BK192.out 8).trans rfl
      have hcz41_9 : wc.cell? ⟨gb192, 9, none⟩ = some (.int .i64 a0_9) := (blk_cell BK192.out 9).trans rfl
      have hcz41_10 : wc.cell? ⟨gb192, 10, none⟩ = some (.bool a0_10) := (blk_cell BK192.out 10).trans rfl
      have hfz41_0 := blk_frozen BK192.out 0
      have hfz41_1 := blk_frozen BK192.out 1
      have hfz41_2 := blk_frozen BK192.out 2
      have hfz41_3 := blk_frozen BK192.out 3
      have hfz41_4 := blk_frozen BK192.out 4
      have hfz41_5 := blk_frozen BK192.out 5
      have hfz41_6 := blk_frozen BK192.out 6
      have hfz41_7 := blk_frozen BK192.out 7
      have hfz41_8 := blk_frozen BK192.out 8
      have hfz41_9 := blk_frozen BK192.out 9
      have hfz41_10 := blk_frozen BK192.out 10
      go_wp2_with (first | ((with_reducible refine gate_callee (f := 106) rfl ?_); refine goesL_ (some 49) rfl rfl Try.func106 (by kernel_rfl) rfl #[.int .i64 a0_8, .int .i64 0, .int .i64 3] rfl (by (try simp only [List.map_toArray, List.map_cons, List.map_nil]); first | done | rfl | (simp only [List.length_drop, List.length_take]; rfl)) ?_; (with_reducible refine (impl_inRange.calls a0_8 0 3 true _ A31.out).mono ?_); rintro e w' ⟨rfl, ⟨nd, rfl⟩⟩; refine ⟨_, rfl, ?_⟩) | (go_at_call 106; (with_reducible refine (impl_inRange.calls a0_9 0 4 false _ A35.out).mono ?_); rintro e w' ⟨rfl, ⟨nd, rfl⟩⟩))
      go_ret
      exact ⟨by first | rfl | (simp [errW_none, errW_some] <;> rfl) | (simp [*, errW_none, errW_some] <;> rfl), by repeat (first | (with_reducible first | exact HB.out | apply below_alloc | apply pw_below_drewN | apply below_drew1 | refine below_set ?_ GE192.out) | exact HB.out)⟩
     subst c36
     have H1 : ((impl_Port_isOpenBy.f a0_0 a0_1 a0_2 a0_3 a0_4 a0_5 a0_6 a0_7 a0_8 a0_9 a0_10).bind fun t198 => (some (a0_10 == t198))) = some r := by rw [if_pos rfl] at H; exact H
     clear H
     have H := H1
     clear H1
     replace H := Option.bind_eq_some_iff.mp H
     obtain ⟨t198, A370, H⟩ := H
     replace H : (some (a0_10 == t198)) = some r := H
     have A37 := aM A370
     clear A370
     obtain rfl := Option.some.inj H
     have hcz38_0 : wc.cell? ⟨gb192, 0, none⟩ = some (.bool a0_0) := (blk_cell BK192.out 0).trans rfl
     have hcz38_1 : wc.cell? ⟨gb192, 1, none⟩ = some (.bool a0_1) := (blk_cell BK192.out 1).trans rfl
     have hcz38_2 : wc.cell? ⟨gb192, 2, none⟩ = some (.int .i64 a0_2) := (blk_cell BK192.out 2).trans rfl
     have hcz38_3 : wc.cell? ⟨gb192, 3, none⟩ = some (.int .i64 a0_3) := (blk_cell BK192.out 3).trans rfl
     have hcz38_4 : wc.cell? ⟨gb192, 4, none⟩ = some (.int .i64 a0_4) := (blk_cell BK192.out 4).trans rfl
     have hcz38_5 : wc.cell? ⟨gb192, 5, none⟩ = some (.int .i64 a0_5) := (blk_cell BK192.out 5).trans rfl
     have hcz38_6 : wc.cell? ⟨gb192, 6, none⟩ = some (.int .i64 a0_6) := (blk_cell BK192.out 6).trans rfl
     have hcz38_7 : wc.cell? ⟨gb192, 7, none⟩ = some (.int .i64 a0_7) := (blk_cell BK192.out 7).trans rfl
     have hcz38_8 : wc.cell? ⟨gb192, 8, none⟩ = some (.int .i64 a0_8) := (blk_cell BK192.out 8).trans rfl
     have hcz38_9 : wc.cell? ⟨gb192, 9, none⟩ = some (.int .i64 a0_9) := (blk_cell BK192.out 9).trans rfl
     have hcz38_10 : wc.cell? ⟨gb192, 10, none⟩ = some (.bool a0_10) := (blk_cell BK192.out 10).trans rfl
     have hfz38_0 := blk_frozen BK192.out 0
     have hfz38_1 := blk_frozen BK192.out 1
     have hfz38_2 := blk_frozen BK192.out 2
     have hfz38_3 := blk_frozen BK192.out 3
     have hfz38_4 := blk_frozen BK192.out 4
     have hfz38_5 := blk_frozen BK192.out 5
     have hfz38_6 := blk_frozen BK192.out 6
     have hfz38_7 := blk_frozen BK192.out 7
     have hfz38_8 := blk_frozen BK192.out 8
     have hfz38_9 := blk_frozen BK192.out 9
     have hfz38_10 := blk_frozen BK192.out 10
     try go_wp2_with (first | ((with_reducible refine gate_callee (f := 106) rfl ?_); refine goesL_ (some 49) rfl rfl Try.func106 (by kernel_rfl) rfl #[.int .i64 a0_8, .int .i64 0, .int .i64 3] rfl (by (try simp only [List.map_toArray, List.map_cons, List.map_nil]); first | done | rfl | (simp only [List.length_drop, List.length_take]; rfl)) ?_; (with_reducible refine (impl_inRange.calls a0_8 0 3 true _ A31.out).mono ?_); rintro e w' ⟨rfl, ⟨nd, rfl⟩⟩; refine ⟨_, rfl, ?_⟩) | (go_at_call 106; (with_reducible refine (impl_inRange.calls a0_9 0 4 true _ A35.out).mono ?_); rintro e w' ⟨rfl, ⟨nd, rfl⟩⟩))
     (try (rw [drewN_self wc]; generalize hq_ : World.drewN wc _ = wc; have n0_ : Aside0 (wc.heap[gb192]? = some (.cells #[.bool a0_0, .bool a0_1, .int .i64 a0_2, .int .i64 a0_3, .int .i64 a0_4, .int .i64 a0_5, .int .i64 a0_6, .int .i64 a0_7, .int .i64 a0_8, .int .i64 a0_9, .bool a0_10] 109 (0, 0))) := ⟨by rw [← hq_]; exact (by (with_reducible repeat (first | refine blk_drewN ?_ _ | refine blk_drew ?_ | refine blk_alloc ?_ _)); exact BK192.out)⟩; have n1_ : Aside0 (Below w.heap.size w wc) := ⟨by rw [← hq_]; exact (by repeat (first | (with_reducible first | exact HB.out | apply below_alloc | apply pw_below_drewN | apply below_drew1 | refine below_set ?_ GE192.out) | exact HB.out))⟩; clear BK192 HB hq_; have BK192 := n0_; have HB := n1_; clear n0_ n1_))
     have n0_ := aM (blk_drew BK192.out)
     have n1_ := aM (below_drew1 HB.out)
     clear BK192
     clear HB
     have BK192 := n0_
     have HB := n1_
     clear n0_ n1_
     refine start_ (n := 6) (S := fun w' => w'.cell? ⟨gb192, 0, none⟩ = some (.bool a0_0) ∧ w'.cell? ⟨gb192, 1, none⟩ = some (.bool a0_1) ∧ w'.cell? ⟨gb192, 2, none⟩ = some (.int .i64 a0_2) ∧ w'.cell? ⟨gb192, 3, none⟩ = some (.int .i64 a0_3) ∧ w'.cell? ⟨gb192, 4, none⟩ = some (.int .i64 a0_4) ∧ w'.cell? ⟨gb192, 5, none⟩ = some (.int .i64 a0_5) ∧ w'.cell? ⟨gb192, 6, none⟩ = some (.int .i64 a0_6) ∧ w'.cell? ⟨gb192, 7, none⟩ = some (.int .i64 a0_7) ∧ w'.cell? ⟨gb192, 8, none⟩ = some (.int .i64 a0_8) ∧ w'.cell? ⟨gb192, 9, none⟩ = some (.int .i64 a0_9) ∧ w'.cell? ⟨gb192, 10, none⟩ = some (.bool a0_10)) (ds := []) #[U,U,U,U,U,U] (by kernel_rfl) rfl rfl ⟨(blk_cell BK192.out 0).trans rfl, (blk_cell BK192.out 1).trans rfl, (blk_cell BK192.out 2).trans rfl, (blk_cell BK192.out 3).trans rfl, (blk_cell BK192.out 4).trans rfl, (blk_cell BK192.out 5).trans rfl, (blk_cell BK192.out 6).trans rfl, (blk_cell BK192.out 7).trans rfl, (blk_cell BK192.out 8).trans rfl, (blk_cell BK192.out 9).trans rfl, (blk_cell BK192.out 10).trans rfl⟩ (fun hHeld => ?_)
     generalize wc.drew = w39 at BK192 HB hHeld ⊢
     refine pure_ (i := 0) (N := some 65) (v := ?_) (a' := ?_) #[Y,U,U,U,U,U] rfl rfl (by kernel_rfl) (fun _ _ _ h => h) (Or.inl ⟨by rfl, ?_⟩) ?_ ?_
     rotate_left
     ·intro w'
      go_simp
      with_reducible rfl
     rotate_left
     ·simp only [Act.put, sA, sZ, sS, i64_w, i32_w]
      rfl
     refine take_ (i := 1) (N := some 66) (v := ?_) (a' := ?_) #[Y,Y,U,U,U,U] rfl rfl (by kernel_rfl) (fun _ _ _ h => h) (Or.inl ⟨by rfl, ?_⟩) hHeld ?_ ?_
     rotate_left
     ·rintro w' ⟨s0, s1, s2, s3, s4, s5, s6, s7, s8, s9, s10⟩
      go_simp
      with_reducible rfl
     rotate_left
     ·simp only [Act.put, sA, sZ, sS, i64_w, i32_w]
      rfl
     refine take_ (i := 2) (N := some 67) (v := ?_) (a' := ?_) #[Y,Y,Y,U,U,U] rfl rfl (by kernel_rfl) (fun _ _ _ h => h) (Or.inl ⟨by rfl, ?_⟩) hHeld ?_ ?_
     rotate_left
     ·rintro w' ⟨s0, s1, s2, s3, s4, s5, s6, s7, s8, s9, s10⟩
      go_simp
      with_reducible rfl
     rotate_left
     ·simp only [Act.put, sA, sZ, sS, i64_w, i32_w]
      rfl
     refine one_ (i := 3) (N := some 68) #[Y,Y,Y,Y,U,U] rfl rfl (by kernel_rfl) (by decide) (fun K hK => ?_)
     refine goes_ Try.func129 (by kernel_rfl) rfl #[.agg #[.bool a0_0, .bool a0_1, .int .i64 a0_2, .int .i64 a0_3, .int .i64 a0_4, .int .i64 a0_5, .int .i64 a0_6, .int .i64 a0_7, .int .i64 a0_8, .int .i64 a0_9, .bool a0_10]] (by rfl) rfl rfl (by (try simp only [List.map_toArray, List.map_cons, List.map_nil]); first | done | rfl | (simp only [List.length_drop, List.length_take]; rfl)) ?_
     with_reducible refine (impl_Port_isOpenBy.calls a0_0 a0_1 a0_2 a0_3 a0_4 a0_5 a0_6 a0_7 a0_8 a0_9 a0_10 t198 _ A37.out).mono ?_
     rintro e w40 ⟨rfl, hb⟩
     refine ⟨_, rfl, ?_⟩
     have n0_ := aM (blk_below (g := gb192) (o := .cells #[.bool a0_0, .bool a0_1, .int .i64 a0_2, .int .i64 a0_3, .int .i64 a0_4, .int .i64 a0_5, .int .i64 a0_6, .int .i64 a0_7, .int .i64 a0_8, .int .i64 a0_9, .bool a0_10] 109 (0, 0)) (by (with_reducible repeat (first | refine blk_drewN ?_ _ | refine blk_drew ?_ | refine blk_alloc ?_ _)); exact BK192.out) hb)
     have n1_ := aM (below_step (by repeat (first | (with_reducible first | exact HB.out | apply below_alloc | apply pw_below_drewN | apply below_drew1 | refine below_set ?_ GE192.out) | exact HB.out)) hb)
     clear BK192
     clear HB
     have BK192 := n0_
     have HB := n1_
     clear n0_ n1_
     (try clear hb)
     (try clear hb2)
     (try clear hk)
     (try clear hi)
     refine hK.out _ _ ⟨(blk_cell BK192.out 0).trans rfl, (blk_cell BK192.out 1).trans rfl, (blk_cell BK192.out 2).trans rfl, (blk_cell BK192.out 3).trans rfl, (blk_cell BK192.out 4).trans rfl, (blk_cell BK192.out 5).trans rfl, (blk_cell BK192.out 6).trans rfl, (blk_cell BK192.out 7).trans rfl, (blk_cell BK192.out 8).trans rfl, (blk_cell BK192.out 9).trans rfl, (blk_cell BK192.out 10).trans rfl⟩ (fun hHeld => ?_)
     clear hK K
     refine norm_ (a' := ?_) ?_ ?_
     rotate_left
     ·show Act.put _ (some 68) _ = _
      simp only [Act.put, sA, sZ, sS, i64_w, i32_w]
      rfl
     refine pure_ (i := 4) (N := some 69) (v := ?_) (a' := ?_) #[Y,Y,Y,Y,Y,U] rfl rfl (by kernel_rfl) (fun _ _ _ h => h) (Or.inl ⟨by rfl, ?_⟩) ?_ ?_
     rotate_left
     ·intro w'
      go_simp
      with_reducible rfl
     rotate_left
     ·simp only [Act.put, sA, sZ, sS, i64_w, i32_w]
      rfl
     refine pure_ (i := 5) (N := some 2) (v := ?_) (a' := ?_) #[Y,Y,Y,Y,Y,Y] rfl rfl (by kernel_rfl) (fun _ _ _ h => h) (Or.inl ⟨by rfl, ?_⟩) ?_ ?_
     rotate_left
     ·intro w'
      go_simp
      with_reducible rfl
     rotate_left
     ·simp only [Act.put, sA, sZ, sS, i64_w, i32_w]
      rfl
     refine done_ (by kernel_rfl) ?_
     try go_wp2
     go_ret
     exact ⟨by first | rfl | (simp [errW_none, errW_some] <;> rfl) | (simp [*, errW_none, errW_some] <;> rfl), by repeat (first | (with_reducible first | exact HB.out | apply below_alloc | apply pw_below_drewN | apply below_drew1 | refine below_set ?_ GE192.out) | exact HB.out)⟩

end Go.Proofs.Ytjmkbmpfknhcdaa.PFnExactOwn
