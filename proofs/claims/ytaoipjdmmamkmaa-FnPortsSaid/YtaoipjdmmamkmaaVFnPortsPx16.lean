/- Of the proof of laws.FnPorts: a part. No condition beyond what its theorems say. -/
import Derived.Test.YtaoipjdmmamkmaaVFnPortsWTight
import Derived.Test.YtaoipjdmmamkmaaVFnPortsPx0
import Derived.Test.YtaoipjdmmamkmaaVFnPortsPx2
import Derived.Test.YtaoipjdmmamkmaaVFnPortsPx9
import Derived.Test.YtaoipjdmmamkmaaVFnPortsPx11
import Derived.Test.YtaoipjdmmamkmaaVFnPortsPx12
namespace Go.Proofs.Ytaoipjdmmamkmaa.PFnPorts
open Go.RowKit Go.Proofs.YtaoipjdmmamkmaaW.PrintWords Go.Proofs.YtaoipjdmmamkmaaW.PrintLast Go.Proofs.YtaoipjdmmamkmaaW.PrintMore
attribute [local go_sem] max2_int min2_int max_two min_two max_three min_three max_four min_four   -- for this text's walks alone
set_option linter.unusedVariables false
set_option linter.unusedSimpArgs false

def impl_Turn.j0 : Nat → Int → Bool → Bool → Bool → Int → Int → Int → Int → Int → Int → Int → Int → Bool → Option (Bool × Bool × Int × Int × Int × Int × Int × Int × Int × Int × Bool)
 | 0, _, _, _, _, _, _, _, _, _, _, _, _, _ => none
 | k + 1, x1, x17, x556000, x556001, x556002, x556003, x556004, x556005, x556006, x556007, x556008, x556009, x556010 => if x17 = true then (some (x556000, x556001, x556002, x556003, x556004, x556005, x556006, x556007, x556008, x556009, x556010)) else (if x1 = 3 then ((impl_Port_isOpenBy.f x556000 x556001 x556002 x556003 x556004 x556005 x556006 x556007 x1 0 x556010).bind fun t559 => (some (x556000, x556001, x556002, x556003, x556004, x556005, x556006, x556007, x1, 0, t559))) else (if x556008 = 3 then ((impl_Port_isOpenBy.f x556000 x556001 x556002 x556003 x556004 x556005 x556006 x556007 x1 4 x556010).bind fun t560 => (some (x556000, x556001, x556002, x556003, x556004, x556005, x556006, x556007, x1, 4, t560))) else ((impl_Port_isOpenBy.f x556000 x556001 x556002 x556003 x556004 x556005 x556006 x556007 x1 x556009 x556010).bind fun t561 => (some (x556000, x556001, x556002, x556003, x556004, x556005, x556006, x556007, x1, x556009, t561)))))
def impl_Turn.f (k : Nat) (a0_0 : Bool) (a0_1 : Bool) (a0_2 : Int) (a0_3 : Int) (a0_4 : Int) (a0_5 : Int) (a0_6 : Int) (a0_7 : Int) (a0_8 : Int) (a0_9 : Int) (a0_10 : Bool) (a1 : Int) : Option (Bool × Bool × Int × Int × Int × Int × Int × Int × Int × Int × Bool) := if a0_0 = true then ((impl_inRange.f a1 1 3).bind fun t557 => (if t557 = true then ((impl_PortOk.f k a0_0 a0_1 a0_2 a0_3 a0_4 a0_5 a0_6 a0_7 a0_8 a0_9 a0_10).bind fun t558 => (impl_Turn.j0 k a1 (!t558) a0_0 a0_1 a0_2 a0_3 a0_4 a0_5 a0_6 a0_7 a0_8 a0_9 a0_10)) else (impl_Turn.j0 k a1 true a0_0 a0_1 a0_2 a0_3 a0_4 a0_5 a0_6 a0_7 a0_8 a0_9 a0_10))) else (impl_Turn.j0 k a1 true a0_0 a0_1 a0_2 a0_3 a0_4 a0_5 a0_6 a0_7 a0_8 a0_9 a0_10)
theorem impl_Turn.mono_l : ∀ k, (∀ y0 y1 y2 y3 y4 y5 y6 y7 y8 y9 y10 y11 y12, LeO (impl_Turn.j0 k y0 y1 y2 y3 y4 y5 y6 y7 y8 y9 y10 y11 y12) (impl_Turn.j0 (k + 1) y0 y1 y2 y3 y4 y5 y6 y7 y8 y9 y10 y11 y12))
 | 0 => fun _ _ _ _ _ _ _ _ _ _ _ _ _ r h => by simp [impl_Turn.j0] at h
 | k + 1 => by
  have ih0 := impl_Turn.mono_l k
  ·intro y0 y1 y2 y3 y4 y5 y6 y7 y8 y9 y10 y11 y12
   unfold impl_Turn.j0
   repeat' first
   | (with_reducible exact ih0 _ _ _ _ _ _ _ _ _ _ _ _ _)
   | (with_reducible exact impl_PortOk.mono _ _ _ _ _ _ _ _ _ _ _ _)
   | (with_reducible exact LeO.refl _)
   | (with_reducible exact LeO.none _)
   | (with_reducible refine LeO.ite ?_ ?_)
   | (with_reducible refine LeO.bind ?_ (fun _ => ?_))
   | exact ih0 _ _ _ _ _ _ _ _ _ _ _ _ _
   | exact impl_PortOk.mono _ _ _ _ _ _ _ _ _ _ _ _
   | exact LeO.none _
   | refine LeO.ite ?_ ?_
   | refine LeO.bind ?_ (fun _ => ?_)
theorem impl_Turn.mono : ∀ a0 a1 a2 a3 a4 a5 a6 a7 a8 a9 a10 a11 k, LeO (impl_Turn.f k a0 a1 a2 a3 a4 a5 a6 a7 a8 a9 a10 a11) (impl_Turn.f (k + 1) a0 a1 a2 a3 a4 a5 a6 a7 a8 a9 a10 a11) := by
 intro a0 a1 a2 a3 a4 a5 a6 a7 a8 a9 a10 a11 k
 have ih0 := impl_Turn.mono_l k
 unfold impl_Turn.f
 repeat' first
   | (with_reducible exact ih0 _ _ _ _ _ _ _ _ _ _ _ _ _)
   | (with_reducible exact impl_PortOk.mono _ _ _ _ _ _ _ _ _ _ _ _)
   | (with_reducible exact LeO.refl _)
   | (with_reducible exact LeO.none _)
   | (with_reducible refine LeO.ite ?_ ?_)
   | (with_reducible refine LeO.bind ?_ (fun _ => ?_))
   | exact ih0 _ _ _ _ _ _ _ _ _ _ _ _ _
   | exact impl_PortOk.mono _ _ _ _ _ _ _ _ _ _ _ _
   | exact LeO.none _
   | refine LeO.ite ?_ ?_
   | refine LeO.bind ?_ (fun _ => ?_)
set_option maxHeartbeats 60000000 in
set_option maxRecDepth 100000 in
theorem impl_Turn.calls (k : Nat) (a0_0 : Bool) (a0_1 : Bool) (a0_2 : Int) (a0_3 : Int) (a0_4 : Int) (a0_5 : Int) (a0_6 : Int) (a0_7 : Int) (a0_8 : Int) (a0_9 : Int) (a0_10 : Bool) (a1 : Int) (r1 : Bool) (r2 : Bool) (r3 : Int) (r4 : Int) (r5 : Int) (r6 : Int) (r7 : Int) (r8 : Int) (r9 : Int) (r10 : Int) (r11 : Bool) (w : World) (h : impl_Turn.f k a0_0 a0_1 a0_2 a0_3 a0_4 a0_5 a0_6 a0_7 a0_8 a0_9 a0_10 a1 = some (r1, r2, r3, r4, r5, r6, r7, r8, r9, r10, r11)) :
  Calls Try.prog 23 #[.agg #[.bool a0_0, .bool a0_1, .int .i64 a0_2, .int .i64 a0_3, .int .i64 a0_4, .int .i64 a0_5, .int .i64 a0_6, .int .i64 a0_7, .int .i64 a0_8, .int .i64 a0_9, .bool a0_10], .int .i64 a1] w fun e w' => e = .returned (.agg #[.bool r1, .bool r2, .int .i64 r3, .int .i64 r4, .int .i64 r5, .int .i64 r6, .int .i64 r7, .int .i64 r8, .int .i64 r9, .int .i64 r10, .bool r11]) ∧ Below w.heap.size w w' := by
 have hu38 := Try.underlying38
 have HB := aM (Below.refl w.heap.size w)
 have H : (if a0_0 = true then ((impl_inRange.f a1 1 3).bind fun t557 => (if t557 = true then ((impl_PortOk.f k a0_0 a0_1 a0_2 a0_3 a0_4 a0_5 a0_6 a0_7 a0_8 a0_9 a0_10).bind fun t558 => (impl_Turn.j0 k a1 (!t558) a0_0 a0_1 a0_2 a0_3 a0_4 a0_5 a0_6 a0_7 a0_8 a0_9 a0_10)) else (impl_Turn.j0 k a1 true a0_0 a0_1 a0_2 a0_3 a0_4 a0_5 a0_6 a0_7 a0_8 a0_9 a0_10))) else (impl_Turn.j0 k a1 true a0_0 a0_1 a0_2 a0_3 a0_4 a0_5 a0_6 a0_7 a0_8 a0_9 a0_10)) = some (r1, r2, r3, r4, r5, r6, r7, r8, r9, r10, r11) := h
 clear h
 have HC3 := aM H
 clear H
 go_enter Try.func23, Try.ntmps23
 go_upto_region 1 with (first | ((with_reducible refine gD (N := 2) rfl ?_); refine bE (N := 2) (cs := #[.bool a0_0, .bool a0_1, .int .i64 a0_2, .int .i64 a0_3, .int .i64 a0_4, .int .i64 a0_5, .int .i64 a0_6, .int .i64 a0_7, .int .i64 a0_8, .int .i64 a0_9, .bool a0_10]) (t := 38) ?_; intro gb555 hg w4 hbox hb; have BK555 := aM (hbox); have GW555 := gE hg (below_size (bl HB.out)); have GE555 := gE hg (below_size (bl HB.out)); replace HB := aM (bS (bl HB.out) hb); clear hb hbox hg) | ((with_reducible refine gD (N := 4) rfl ?_); refine bE (N := 4) (cs := #[.bool false, .bool false, .int .i64 0, .int .i64 0, .int .i64 0, .int .i64 0, .int .i64 0, .int .i64 0, .int .i64 0, .int .i64 0, .bool false]) (t := 38) ?_; intro gb556 hg w5 hbox hb; have BK556 := aM (hbox); have GW556 := gE hg (below_size (bl HB.out)); have GE556 := gE hg (below_size (bl HB.out)); have NB555_556 := nL hg (blk_lt (bk BK555.out)); have NB556_555 := nG hg (blk_lt (bk BK555.out)); replace BK555 := aM (bB (bk BK555.out) hb); replace HB := aM (bS (bl HB.out) hb); clear hb hbox hg))
 (try simp only [Act.put, sA, sZ, sS])
 go_cut [17] (fun v17 wc => ∃ (kq : Nat) (x17_2 : Bool), v17 = .bool x17_2 ∧ Aside0 (impl_Turn.j0 kq a1 x17_2 a0_0 a0_1 a0_2 a0_3 a0_4 a0_5 a0_6 a0_7 a0_8 a0_9 a0_10 = some (r1, r2, r3, r4, r5, r6, r7, r8, r9, r10, r11)) ∧ Aside0 (kq ≤ k) ∧ Aside0 (wc.heap[gb555]? = some (.cells #[.bool a0_0, .bool a0_1, .int .i64 a0_2, .int .i64 a0_3, .int .i64 a0_4, .int .i64 a0_5, .int .i64 a0_6, .int .i64 a0_7, .int .i64 a0_8, .int .i64 a0_9, .bool a0_10] 38 (0, 0))) ∧ Aside0 (wc.heap[gb556]? = some (.cells #[.bool false, .bool false, .int .i64 0, .int .i64 0, .int .i64 0, .int .i64 0, .int .i64 0, .int .i64 0, .int .i64 0, .int .i64 0, .bool false] 38 (0, 0))) ∧ Aside0 (Below w.heap.size w wc))
 case first =>
  have H := HC3.out
  clear HC3
  by_cases c6 : a0_0 = true
  case neg =>
   replace c6 := Bool.eq_false_iff.mpr c6
   subst c6
   replace H := hN H (show ¬ (false = true) by decide)
   have H' := aM H
   clear H
   have hnb15 := NB555_556.out
   have hnc15 := NB556_555.out
   have hcz16 := cA11 BK555.out
   go_wp2
   go_meet
   case rel => exact ⟨_, (true), xE, H', ⟨by first | omega | exact Nat.le_refl _⟩, ⟨by (with_reducible repeat (first | refine blk_drewN ?_ _ | refine blk_drew ?_ | refine blk_alloc ?_ _)); exact BK555.out⟩, ⟨by (with_reducible repeat (first | refine blk_drewN ?_ _ | refine blk_drew ?_ | refine blk_alloc ?_ _)); exact BK556.out⟩, ⟨bl HB.out⟩⟩
  subst c6
  replace H := hP H rfl
  obtain ⟨t557, A70, H⟩ := hB H
  have A7 := aM A70
  clear A70
  by_cases c8 : t557 = true
  case neg =>
   replace c8 := Bool.eq_false_iff.mpr c8
   subst c8
   replace H := hN H (show ¬ (false = true) by decide)
   have H' := aM H
   clear H
   have hnb13 := NB555_556.out
   have hnc13 := NB556_555.out
   have hcz14 := cA11 BK555.out
   go_wp2_with (first | (go_at_call 55; (with_reducible refine (impl_inRange.calls a1 1 3 false _ A7.out).mono ?_); rintro e w' ⟨rfl, ⟨nd, rfl⟩⟩))
   go_meet
   case rel => exact ⟨_, (true), xE, H', ⟨by first | omega | exact Nat.le_refl _⟩, ⟨by (with_reducible repeat (first | refine blk_drewN ?_ _ | refine blk_drew ?_ | refine blk_alloc ?_ _)); exact BK555.out⟩, ⟨by (with_reducible repeat (first | refine blk_drewN ?_ _ | refine blk_drew ?_ | refine blk_alloc ?_ _)); exact BK556.out⟩, ⟨bl HB.out⟩⟩
  subst c8
  replace H := hP H rfl
  obtain ⟨t558, A90, H⟩ := hB H
  have A9 := aM A90
  clear A90
  have H' := aM H
  clear H
  have hnb10 := NB555_556.out
  have hnc10 := NB556_555.out
  have hcz11 := cA11 BK555.out
  go_wp2_with (first | (go_at_call 55; (with_reducible refine (impl_inRange.calls a1 1 3 true _ A7.out).mono ?_); rintro e w' ⟨rfl, ⟨nd, rfl⟩⟩) | (go_at_call 28; (with_reducible refine (impl_PortOk.calls k true a0_1 a0_2 a0_3 a0_4 a0_5 a0_6 a0_7 a0_8 a0_9 a0_10 t558 _ A9.out).mono ?_); rintro e w12 ⟨rfl, hb⟩; replace BK555 := aM (bB (bk BK555.out) hb); replace BK556 := aM (bB (bk BK556.out) hb); replace HB := aM (bS (bl HB.out) hb); (try clear hb)))
  go_meet
  case rel => exact ⟨_, (!t558), xE, H', ⟨by first | omega | exact Nat.le_refl _⟩, ⟨by (with_reducible repeat (first | refine blk_drewN ?_ _ | refine blk_drew ?_ | refine blk_alloc ?_ _)); exact BK555.out⟩, ⟨by (with_reducible repeat (first | refine blk_drewN ?_ _ | refine blk_drew ?_ | refine blk_alloc ?_ _)); exact BK556.out⟩, ⟨bl HB.out⟩⟩
 case rest =>
  clear HC3
  try clear c1
  try clear c2
  try clear p2
  try clear c6
  try clear c8
  try clear c10
  try clear c13
  try clear c15
  try clear hcz11
  try clear hcz11_1
  try clear hcz11_10
  try clear hcz11_2
  try clear hcz11_3
  try clear hcz11_4
  try clear hcz11_5
  try clear hcz11_6
  try clear hcz11_7
  try clear hcz11_8
  try clear hcz11_9
  try clear hcz14
  try clear hcz14_1
  try clear hcz14_10
  try clear hcz14_2
  try clear hcz14_3
  try clear hcz14_4
  try clear hcz14_5
  try clear hcz14_6
  try clear hcz14_7
  try clear hcz14_8
  try clear hcz14_9
  try clear hcz16
  try clear hcz16_1
  try clear hcz16_10
  try clear hcz16_2
  try clear hcz16_3
  try clear hcz16_4
  try clear hcz16_5
  try clear hcz16_6
  try clear hcz16_7
  try clear hcz16_8
  try clear hcz16_9
  try clear hfz11_0
  try clear hfz11_1
  try clear hfz11_10
  try clear hfz11_2
  try clear hfz11_3
  try clear hfz11_4
  try clear hfz11_5
  try clear hfz11_6
  try clear hfz11_7
  try clear hfz11_8
  try clear hfz11_9
  try clear hfz14_0
  try clear hfz14_1
  try clear hfz14_10
  try clear hfz14_2
  try clear hfz14_3
  try clear hfz14_4
  try clear hfz14_5
  try clear hfz14_6
  try clear hfz14_7
  try clear hfz14_8
  try clear hfz14_9
  try clear hfz16_0
  try clear hfz16_1
  try clear hfz16_10
  try clear hfz16_2
  try clear hfz16_3
  try clear hfz16_4
  try clear hfz16_5
  try clear hfz16_6
  try clear hfz16_7
  try clear hfz16_8
  try clear hfz16_9
  obtain ⟨kq, x17_2, rfl, HA, HJ2, BK555, BK556, HB⟩ := hcut
  cases kq with
  | zero => exact absurd HA.out (by simp [impl_Turn.j0])
  | succ kj2 =>
   have H := HA.out
   clear HA
   simp only [impl_Turn.j0] at H
   by_cases c17 : x17_2 = true
   case pos =>
    subst c17
    replace H := hP H rfl
    simp only [Option.some.injEq, Prod.mk.injEq] at H
    obtain ⟨rfl, rfl, rfl, rfl, rfl, rfl, rfl, rfl, rfl, rfl, rfl⟩ := H
    have hnb18 := NB555_556.out
    have hnc18 := NB556_555.out
    have hcz19 := cA11 BK555.out
    have hcz20 := cA11 BK556.out
    go_wp2
    refine bodyPost_ret (results_cell_row rfl _ _ gb556 38 #[.bool a0_0, .bool a0_1, .int .i64 a0_2, .int .i64 a0_3, .int .i64 a0_4, .int .i64 a0_5, .int .i64 a0_6, .int .i64 a0_7, .int .i64 a0_8, .int .i64 a0_9, .bool a0_10] (0, 0) _ rfl (bm BK556.out) Try.underlying38 rfl (by kernel_rfl)) rfl ?_
    exact ⟨xW, bl HB.out⟩
   replace c17 := Bool.eq_false_iff.mpr c17
   subst c17
   replace H := hN H (show ¬ (false = true) by decide)
   by_cases c21 : a1 = 3
   case pos =>
    rw [if_pos c21] at H
    have c21b0 : (a1 == 3) = true := beq_iff_eq.mpr c21
    have c21b1 : (a1 != 3) = false := bne_eq_false_iff_eq.mpr c21
    clear c21
    obtain ⟨t559, A220, H⟩ := hB H
    have A22 := aM A220
    clear A220
    simp only [Option.some.injEq, Prod.mk.injEq] at H
    obtain ⟨rfl, rfl, rfl, rfl, rfl, rfl, rfl, rfl, rfl, rfl, rfl⟩ := H
    have hnb23 := NB555_556.out
    have hnc23 := NB556_555.out
    have hcz24 := cA11 BK555.out
    go_wp2_with (first | ((with_reducible refine gC (f := 65) rfl ?_); refine gL (some 31) Try.func65 #[.agg #[.bool a0_0, .bool a0_1, .int .i64 a0_2, .int .i64 a0_3, .int .i64 a0_4, .int .i64 a0_5, .int .i64 a0_6, .int .i64 a0_7, .int .i64 a1, .int .i64 0, .bool a0_10]] ?_; (with_reducible refine (impl_Port_isOpenBy.calls a0_0 a0_1 a0_2 a0_3 a0_4 a0_5 a0_6 a0_7 a1 0 a0_10 t559 _ A22.out).mono ?_); rintro e w25 ⟨rfl, hb⟩; refine ⟨_, rfl, ?_⟩; replace BK555 := aM (bB (g := gb555) (o := .cells #[.bool a0_0, .bool a0_1, .int .i64 a0_2, .int .i64 a0_3, .int .i64 a0_4, .int .i64 a0_5, .int .i64 a0_6, .int .i64 a0_7, .int .i64 a1, .int .i64 0, .bool a0_10] 38 (0, 0)) (by (with_reducible repeat (first | refine blk_drewN ?_ _ | refine blk_drew ?_ | refine blk_alloc ?_ _)); refine blk_put (cs := #[.bool a0_0, .bool a0_1, .int .i64 a0_2, .int .i64 a0_3, .int .i64 a0_4, .int .i64 a0_5, .int .i64 a0_6, .int .i64 a0_7, .int .i64 a0_8, .int .i64 0, .bool a0_10]) ?_ 8 _ rfl; (with_reducible repeat (first | refine blk_drewN ?_ _ | refine blk_drew ?_ | refine blk_alloc ?_ _)); refine blk_put (cs := #[.bool a0_0, .bool a0_1, .int .i64 a0_2, .int .i64 a0_3, .int .i64 a0_4, .int .i64 a0_5, .int .i64 a0_6, .int .i64 a0_7, .int .i64 a0_8, .int .i64 a0_9, .bool a0_10]) ?_ 9 _ rfl; (with_reducible repeat (first | refine blk_drewN ?_ _ | refine blk_drew ?_ | refine blk_alloc ?_ _)); exact BK555.out) hb); replace BK556 := aM (bB (fm BK556.out) hb); replace HB := aM (bS (bl HB.out) hb); (try clear hb); have hcz26 := cA11 BK555.out; have hcz27 := cA11 BK556.out))
    refine bodyPost_ret (results_cell_row rfl _ _ gb556 38 #[.bool a0_0, .bool a0_1, .int .i64 a0_2, .int .i64 a0_3, .int .i64 a0_4, .int .i64 a0_5, .int .i64 a0_6, .int .i64 a0_7, .int .i64 a1, .int .i64 0, .bool t559] (0, 0) _ rfl (bm BK556.out) Try.underlying38 rfl (by kernel_rfl)) rfl ?_
    exact ⟨xW, bl HB.out⟩
   rw [if_neg c21] at H
   have c21b0 : (a1 == 3) = false := beq_eq_false_iff_ne.mpr c21
   have c21b1 : (a1 != 3) = true := bne_iff_ne.mpr c21
   by_cases c28 : a0_8 = 3
   case neg =>
    rw [if_neg c28] at H
    have c28b0 : (a0_8 == 3) = false := beq_eq_false_iff_ne.mpr c28
    have c28b1 : (a0_8 != 3) = true := bne_iff_ne.mpr c28
    obtain ⟨t561, A350, H⟩ := hB H
    have A35 := aM A350
    clear A350
    simp only [Option.some.injEq, Prod.mk.injEq] at H
    obtain ⟨rfl, rfl, rfl, rfl, rfl, rfl, rfl, rfl, rfl, rfl, rfl⟩ := H
    have hnb36 := NB555_556.out
    have hnc36 := NB556_555.out
    have hcz37 := cA11 BK555.out
    go_wp2_with (first | ((with_reducible refine gC (f := 65) rfl ?_); refine gL (some 31) Try.func65 #[.agg #[.bool a0_0, .bool a0_1, .int .i64 a0_2, .int .i64 a0_3, .int .i64 a0_4, .int .i64 a0_5, .int .i64 a0_6, .int .i64 a0_7, .int .i64 a1, .int .i64 a0_9, .bool a0_10]] ?_; (with_reducible refine (impl_Port_isOpenBy.calls a0_0 a0_1 a0_2 a0_3 a0_4 a0_5 a0_6 a0_7 a1 a0_9 a0_10 t561 _ A35.out).mono ?_); rintro e w38 ⟨rfl, hb⟩; refine ⟨_, rfl, ?_⟩; replace BK555 := aM (bB (g := gb555) (o := .cells #[.bool a0_0, .bool a0_1, .int .i64 a0_2, .int .i64 a0_3, .int .i64 a0_4, .int .i64 a0_5, .int .i64 a0_6, .int .i64 a0_7, .int .i64 a1, .int .i64 a0_9, .bool a0_10] 38 (0, 0)) (by (with_reducible repeat (first | refine blk_drewN ?_ _ | refine blk_drew ?_ | refine blk_alloc ?_ _)); refine blk_put (cs := #[.bool a0_0, .bool a0_1, .int .i64 a0_2, .int .i64 a0_3, .int .i64 a0_4, .int .i64 a0_5, .int .i64 a0_6, .int .i64 a0_7, .int .i64 a0_8, .int .i64 a0_9, .bool a0_10]) ?_ 8 _ rfl; (with_reducible repeat (first | refine blk_drewN ?_ _ | refine blk_drew ?_ | refine blk_alloc ?_ _)); exact BK555.out) hb); replace BK556 := aM (bB (fm BK556.out) hb); replace HB := aM (bS (bl HB.out) hb); (try clear hb); have hcz39 := cA11 BK555.out; have hcz40 := cA11 BK556.out))
    refine bodyPost_ret (results_cell_row rfl _ _ gb556 38 #[.bool a0_0, .bool a0_1, .int .i64 a0_2, .int .i64 a0_3, .int .i64 a0_4, .int .i64 a0_5, .int .i64 a0_6, .int .i64 a0_7, .int .i64 a1, .int .i64 a0_9, .bool t561] (0, 0) _ rfl (bm BK556.out) Try.underlying38 rfl (by kernel_rfl)) rfl ?_
    exact ⟨xW, bl HB.out⟩
   rw [if_pos c28] at H
   have c28b0 : (a0_8 == 3) = true := beq_iff_eq.mpr c28
   have c28b1 : (a0_8 != 3) = false := bne_eq_false_iff_eq.mpr c28
   clear c28
   obtain ⟨t560, A290, H⟩ := hB H
   have A29 := aM A290
   clear A290
   simp only [Option.some.injEq, Prod.mk.injEq] at H
   obtain ⟨rfl, rfl, rfl, rfl, rfl, rfl, rfl, rfl, rfl, rfl, rfl⟩ := H
   have hnb30 := NB555_556.out
   have hnc30 := NB556_555.out
   have hcz31 := cA11 BK555.out
   go_wp2_with (first | ((with_reducible refine gC (f := 65) rfl ?_); refine gL (some 31) Try.func65 #[.agg #[.bool a0_0, .bool a0_1, .int .i64 a0_2, .int .i64 a0_3, .int .i64 a0_4, .int .i64 a0_5, .int .i64 a0_6, .int .i64 a0_7, .int .i64 a1, .int .i64 4, .bool a0_10]] ?_; (with_reducible refine (impl_Port_isOpenBy.calls a0_0 a0_1 a0_2 a0_3 a0_4 a0_5 a0_6 a0_7 a1 4 a0_10 t560 _ A29.out).mono ?_); rintro e w32 ⟨rfl, hb⟩; refine ⟨_, rfl, ?_⟩; replace BK555 := aM (bB (g := gb555) (o := .cells #[.bool a0_0, .bool a0_1, .int .i64 a0_2, .int .i64 a0_3, .int .i64 a0_4, .int .i64 a0_5, .int .i64 a0_6, .int .i64 a0_7, .int .i64 a1, .int .i64 4, .bool a0_10] 38 (0, 0)) (by (with_reducible repeat (first | refine blk_drewN ?_ _ | refine blk_drew ?_ | refine blk_alloc ?_ _)); refine blk_put (cs := #[.bool a0_0, .bool a0_1, .int .i64 a0_2, .int .i64 a0_3, .int .i64 a0_4, .int .i64 a0_5, .int .i64 a0_6, .int .i64 a0_7, .int .i64 a0_8, .int .i64 4, .bool a0_10]) ?_ 8 _ rfl; (with_reducible repeat (first | refine blk_drewN ?_ _ | refine blk_drew ?_ | refine blk_alloc ?_ _)); refine blk_put (cs := #[.bool a0_0, .bool a0_1, .int .i64 a0_2, .int .i64 a0_3, .int .i64 a0_4, .int .i64 a0_5, .int .i64 a0_6, .int .i64 a0_7, .int .i64 a0_8, .int .i64 a0_9, .bool a0_10]) ?_ 9 _ rfl; (with_reducible repeat (first | refine blk_drewN ?_ _ | refine blk_drew ?_ | refine blk_alloc ?_ _)); exact BK555.out) hb); replace BK556 := aM (bB (fm BK556.out) hb); replace HB := aM (bS (bl HB.out) hb); (try clear hb); have hcz33 := cA11 BK555.out; have hcz34 := cA11 BK556.out))
   refine bodyPost_ret (results_cell_row rfl _ _ gb556 38 #[.bool a0_0, .bool a0_1, .int .i64 a0_2, .int .i64 a0_3, .int .i64 a0_4, .int .i64 a0_5, .int .i64 a0_6, .int .i64 a0_7, .int .i64 a1, .int .i64 4, .bool t560] (0, 0) _ rfl (bm BK556.out) Try.underlying38 rfl (by kernel_rfl)) rfl ?_
   exact ⟨xW, bl HB.out⟩

def spec_DrawPortOk.f (k : Nat) (l0 : List Int) : Option (Bool × Bool × Int × Int × Int × Int × Int × Int × Int × Int × Bool) := (spec_l1New.f k l0).bind fun bt563 => ((spec_l7Draw.f k bt563.1 bt563.2.1 bt563.2.2).bind fun bt567 => (some (bt567.1, bt567.2.1, bt567.2.2.1, bt567.2.2.2.1, bt567.2.2.2.2.1, bt567.2.2.2.2.2.1, bt567.2.2.2.2.2.2.1, bt567.2.2.2.2.2.2.2.1, bt567.2.2.2.2.2.2.2.2.1, bt567.2.2.2.2.2.2.2.2.2.1, bt567.2.2.2.2.2.2.2.2.2.2.1)))
theorem spec_DrawPortOk.mono : ∀ a0 k, LeO (spec_DrawPortOk.f k a0) (spec_DrawPortOk.f (k + 1) a0) := by
 intro a0 k
 unfold spec_DrawPortOk.f
 repeat' first
   | (with_reducible exact spec_l1New.mono _ _)
   | (with_reducible exact spec_l7Draw.mono _ _ _ _)
   | (with_reducible exact LeO.refl _)
   | (with_reducible exact LeO.none _)
   | (with_reducible refine LeO.ite ?_ ?_)
   | (with_reducible refine LeO.bind ?_ (fun _ => ?_))
   | exact spec_l1New.mono _ _
   | exact spec_l7Draw.mono _ _ _ _
   | exact LeO.none _
   | refine LeO.ite ?_ ?_
   | refine LeO.bind ?_ (fun _ => ?_)
set_option maxHeartbeats 60000000 in
set_option maxRecDepth 100000 in
theorem spec_DrawPortOk.calls (k : Nat) (A0 : Option Addr) (c0 : Nat) (l0 : List Int) (r1 : Bool) (r2 : Bool) (r3 : Int) (r4 : Int) (r5 : Int) (r6 : Int) (r7 : Int) (r8 : Int) (r9 : Int) (r10 : Int) (r11 : Bool) (w : World) (hr0 : Kd.C (Kd.int .u8) w A0 l0.length l0) (hc0 : l0.length ≤ c0) (h : spec_DrawPortOk.f k l0 = some (r1, r2, r3, r4, r5, r6, r7, r8, r9, r10, r11)) :
  Calls Try.prog 24 #[.slice A0 l0.length c0] w fun e w' => e = .returned (.agg #[.bool r1, .bool r2, .int .i64 r3, .int .i64 r4, .int .i64 r5, .int .i64 r6, .int .i64 r7, .int .i64 r8, .int .i64 r9, .int .i64 r10, .bool r11]) ∧ Below w.heap.size w w' := by
 have hu38 := Try.underlying38
 have HR0 := aM hr0
 have HC0 := aM hc0
 clear hr0 hc0
 have HB := aM (Below.refl w.heap.size w)
 have H : ((spec_l1New.f k l0).bind fun bt563 => ((spec_l7Draw.f k bt563.1 bt563.2.1 bt563.2.2).bind fun bt567 => (some (bt567.1, bt567.2.1, bt567.2.2.1, bt567.2.2.2.1, bt567.2.2.2.2.1, bt567.2.2.2.2.2.1, bt567.2.2.2.2.2.2.1, bt567.2.2.2.2.2.2.2.1, bt567.2.2.2.2.2.2.2.2.1, bt567.2.2.2.2.2.2.2.2.2.1, bt567.2.2.2.2.2.2.2.2.2.2.1)))) = some (r1, r2, r3, r4, r5, r6, r7, r8, r9, r10, r11) := h
 clear h
 obtain ⟨⟨t563, t564, t565⟩, A20, H⟩ := hB H
 try dsimp only at H
 have A2 := aM A20
 clear A20
 obtain ⟨⟨t567, t568, t569, t570, t571, t572, t573, t574, t575, t576, t577, t578, t579⟩, A30, H⟩ := hB H
 try dsimp only at H
 have A3 := aM A30
 clear A30
 simp only [Option.some.injEq, Prod.mk.injEq] at H
 obtain ⟨rfl, rfl, rfl, rfl, rfl, rfl, rfl, rfl, rfl, rfl, rfl⟩ := H
 go_enter Try.func24, Try.ntmps24
 go_wp2_with (first | ((with_reducible refine gD (N := 2) rfl ?_); refine bE (N := 2) (cs := #[.bool false, .bool false, .int .i64 0, .int .i64 0, .int .i64 0, .int .i64 0, .int .i64 0, .int .i64 0, .int .i64 0, .int .i64 0, .bool false]) (t := 38) ?_; intro gb562 hg w4 hbox hb; have BK562 := aM (hbox); have GW562 := gE hg (below_size (bl HB.out)); have GE562 := gE hg (below_size (bl HB.out)); replace HB := aM (bS (bl HB.out) hb); clear hb hbox hg) | ((with_reducible refine gC (f := 40) rfl ?_); refine gL (some 4) Try.func40 #[.slice A0 l0.length c0] ?_; (with_reducible refine (spec_l1New.calls k _ _ l0 t563 t564 t565 w _ ?side1 ?side2 ?side3 A2.out).mono ?_); (case side1 => exact bl HB.out); (case side2 => exact HR0.out); (case side3 => exact HC0.out); rintro e w5 ⟨g566, rfl, hi, hb, hb2⟩; refine ⟨_, rfl, ?_⟩; have HI566 := aM (hi); have NB566_562 := aM (IsS91.ne_blk hi (bB (bk BK562.out) hb2) (by decide)); have NB562_566 := aM (Ne.symm (IsS91.ne_blk hi (bB (bk BK562.out) hb2) (by decide))); replace BK562 := aM (bB (bk BK562.out) hb2); replace HB := aM (hb); (try clear hb); (try clear hb2); (try clear hi)) | ((with_reducible refine gC (f := 58) rfl ?_); refine gL (some 5) Try.func58 #[.pointer (some ⟨g566, 0, none⟩)] ?_; (with_reducible refine (spec_l7Draw.calls k g566 t563 t564 t565 t567 t568 t569 t570 t571 t572 t573 t574 t575 t576 t577 t578 t579 w _ ?side1 ?side2 A3.out).mono ?_); (case side1 => exact IsS91.mv HI566.out); (case side2 => exact IsS91.bl HB.out); rintro e w6 ⟨rfl, hi, hb, hk⟩; refine ⟨_, rfl, ?_⟩; replace BK562 := aM (KeepBut.blk hk (bk BK562.out) NB562_566.out (by simp)); replace HB := aM (hb); replace HI566 := aM (hi); (try clear hb); (try clear hk); (try clear hi); have hnb7 := NB562_566.out; have hnc7 := NB566_562.out; have hcz8 := cA11 BK562.out))
 refine bodyPost_ret (results_cell_row rfl _ _ gb562 38 #[.bool t567, .bool t568, .int .i64 t569, .int .i64 t570, .int .i64 t571, .int .i64 t572, .int .i64 t573, .int .i64 t574, .int .i64 t575, .int .i64 t576, .bool t577] (0, 0) _ rfl (bm BK562.out) Try.underlying38 rfl (by kernel_rfl)) rfl ?_
 exact ⟨xW, IsS91.bl HB.out⟩

-- NOT PRINTED: function 4 (laws_FnPorts)

end Go.Proofs.Ytaoipjdmmamkmaa.PFnPorts
