/- Of the proof of laws.FnExactOwn: a part. No condition beyond what its theorems say. -/
import Derived.Test.YtjmkbmpfknhcdaaVFnExactOwnPx0
import Derived.Test.YtjmkbmpfknhcdaaVFnExactOwnPx9
namespace Go.Proofs.Ytjmkbmpfknhcdaa.PFnExactOwn
open Go.RowKit Go.Proofs.YtjmkbmpfknhcdaaW.PrintWords Go.Proofs.YtjmkbmpfknhcdaaW.PrintLast Go.Proofs.YtjmkbmpfknhcdaaW.PrintMore
attribute [local go_sem] max2_int min2_int max_two min_two max_three min_three max_four min_four   -- for this text's walks alone
set_option linter.unusedVariables false
set_option linter.unusedSimpArgs false

mutual
def impl_Bridge_rootPort.l0 : Nat → Int → List (S109) → Int → Int → Int → List (S109) → Option (Int)
 | 0, _, _, _, _, _, _ => none
 | k + 1, x3, x9, x10, x11, x219000, x219001 => if x11 < x10 then (if 0 ≤ x11 then (if x11 < (x9.length : Int) then (if ((rd_T109 x9 x11).f1 = true) then (if ((rd_T109 x9 x11).f2.f2) = x219000 then (impl_Bridge_rootPort.j1 k x3 x11 x9 x10 x11 true x219000 x219001 ((rd_T109 x9 x11).f0) ((rd_T109 x9 x11).f1) ((rd_T109 x9 x11).f2.f0) ((rd_T109 x9 x11).f2.f1) ((rd_T109 x9 x11).f2.f2) ((rd_T109 x9 x11).f2.f3) ((rd_T109 x9 x11).f3) ((rd_T109 x9 x11).f4) ((rd_T109 x9 x11).f5) ((rd_T109 x9 x11).f6) ((rd_T109 x9 x11).f7)) else (if ((rd_T109 x9 x11).f2.f0) ≥ x219000 then (impl_Bridge_rootPort.j1 k x3 x11 x9 x10 x11 true x219000 x219001 ((rd_T109 x9 x11).f0) ((rd_T109 x9 x11).f1) ((rd_T109 x9 x11).f2.f0) ((rd_T109 x9 x11).f2.f1) ((rd_T109 x9 x11).f2.f2) ((rd_T109 x9 x11).f2.f3) ((rd_T109 x9 x11).f3) ((rd_T109 x9 x11).f4) ((rd_T109 x9 x11).f5) ((rd_T109 x9 x11).f6) ((rd_T109 x9 x11).f7)) else (if ((rd_T109 x9 x11).f2.f1) ≥ 20 then (impl_Bridge_rootPort.j1 k x3 x11 x9 x10 x11 true x219000 x219001 ((rd_T109 x9 x11).f0) ((rd_T109 x9 x11).f1) ((rd_T109 x9 x11).f2.f0) ((rd_T109 x9 x11).f2.f1) ((rd_T109 x9 x11).f2.f2) ((rd_T109 x9 x11).f2.f3) ((rd_T109 x9 x11).f3) ((rd_T109 x9 x11).f4) ((rd_T109 x9 x11).f5) ((rd_T109 x9 x11).f6) ((rd_T109 x9 x11).f7)) else (impl_Bridge_rootPort.j1 k x3 x11 x9 x10 x11 (decide (((rd_T109 x9 x11).f3) ≥ 8)) x219000 x219001 ((rd_T109 x9 x11).f0) ((rd_T109 x9 x11).f1) ((rd_T109 x9 x11).f2.f0) ((rd_T109 x9 x11).f2.f1) ((rd_T109 x9 x11).f2.f2) ((rd_T109 x9 x11).f2.f3) ((rd_T109 x9 x11).f3) ((rd_T109 x9 x11).f4) ((rd_T109 x9 x11).f5) ((rd_T109 x9 x11).f6) ((rd_T109 x9 x11).f7))))) else (impl_Bridge_rootPort.j1 k x3 x11 x9 x10 x11 true x219000 x219001 ((rd_T109 x9 x11).f0) ((rd_T109 x9 x11).f1) ((rd_T109 x9 x11).f2.f0) ((rd_T109 x9 x11).f2.f1) ((rd_T109 x9 x11).f2.f2) ((rd_T109 x9 x11).f2.f3) ((rd_T109 x9 x11).f3) ((rd_T109 x9 x11).f4) ((rd_T109 x9 x11).f5) ((rd_T109 x9 x11).f6) ((rd_T109 x9 x11).f7))) else (none)) else (none)) else (some x3)
def impl_Bridge_rootPort.j1 : Nat → Int → Int → List (S109) → Int → Int → Bool → Int → List (S109) → Bool → Bool → Int → Int → Int → Int → Int → Int → Int → Int → Bool → Option (Int)
 | 0, _, _, _, _, _, _, _, _, _, _, _, _, _, _, _, _, _, _, _ => none
 | k + 1, x3, x4, x9, x10, x11, x49, x219000, x219001, x221000, x221001, x221002, x221003, x221004, x221005, x221006, x221007, x221008, x221009, x221010 => if x49 = true then (impl_Bridge_rootPort.l0 k x3 x9 x10 (wrap64 (x11 + 1)) x219000 x219001) else (if x3 < 0 then (impl_Bridge_rootPort.l0 k x4 x9 x10 (wrap64 (x11 + 1)) x219000 x219001) else (if 0 ≤ x3 then (if x3 < (x219001.length : Int) then ((impl_Better.f k x221002 x221003 x221004 x221005 ((rd_T109 x219001 x3).f2.f0) ((rd_T109 x219001 x3).f2.f1) ((rd_T109 x219001 x3).f2.f2) ((rd_T109 x219001 x3).f2.f3)).bind fun t222 => (if t222 = true then (impl_Bridge_rootPort.l0 k x4 x9 x10 (wrap64 (x11 + 1)) x219000 x219001) else (impl_Bridge_rootPort.l0 k x3 x9 x10 (wrap64 (x11 + 1)) x219000 x219001))) else (none)) else (none)))
end
def impl_Bridge_rootPort.f (k : Nat) (a0_0 : Int) (l0_1 : List (S109)) : Option (Int) := impl_Bridge_rootPort.l0 k (-1) l0_1 (l0_1.length : Int) 0 a0_0 l0_1
theorem impl_Bridge_rootPort.mono_l : ∀ k, (∀ y0 y1 y2 y3 y4 y5, LeO (impl_Bridge_rootPort.l0 k y0 y1 y2 y3 y4 y5) (impl_Bridge_rootPort.l0 (k + 1) y0 y1 y2 y3 y4 y5)) ∧ (∀ y0 y1 y2 y3 y4 y5 y6 y7 y8 y9 y10 y11 y12 y13 y14 y15 y16 y17 y18, LeO (impl_Bridge_rootPort.j1 k y0 y1 y2 y3 y4 y5 y6 y7 y8 y9 y10 y11 y12 y13 y14 y15 y16 y17 y18) (impl_Bridge_rootPort.j1 (k + 1) y0 y1 y2 y3 y4 y5 y6 y7 y8 y9 y10 y11 y12 y13 y14 y15 y16 y17 y18))
 | 0 => ⟨fun _ _ _ _ _ _ r h => by simp [impl_Bridge_rootPort.l0] at h, fun _ _ _ _ _ _ _ _ _ _ _ _ _ _ _ _ _ _ _ r h => by simp [impl_Bridge_rootPort.j1] at h⟩
 | k + 1 => by
  obtain ⟨ih0, ih1⟩ := impl_Bridge_rootPort.mono_l k
  refine ⟨?_, ?_⟩
  ·intro y0 y1 y2 y3 y4 y5
   unfold impl_Bridge_rootPort.l0
   repeat' first
   | (with_reducible exact ih0 _ _ _ _ _ _)
   | (with_reducible exact ih1 _ _ _ _ _ _ _ _ _ _ _ _ _ _ _ _ _ _ _)
   | (with_reducible exact impl_Better.mono _ _ _ _ _ _ _ _ _)
   | (with_reducible exact LeO.refl _)
   | (with_reducible exact LeO.none _)
   | (with_reducible refine LeO.ite ?_ ?_)
   | (with_reducible refine LeO.bind ?_ (fun _ => ?_))
   | exact ih0 _ _ _ _ _ _
   | exact ih1 _ _ _ _ _ _ _ _ _ _ _ _ _ _ _ _ _ _ _
   | exact impl_Better.mono _ _ _ _ _ _ _ _ _
   | exact LeO.none _
   | refine LeO.ite ?_ ?_
   | refine LeO.bind ?_ (fun _ => ?_)
  ·intro y0 y1 y2 y3 y4 y5 y6 y7 y8 y9 y10 y11 y12 y13 y14 y15 y16 y17 y18
   unfold impl_Bridge_rootPort.j1
   repeat' first
   | (with_reducible exact ih0 _ _ _ _ _ _)
   | (with_reducible exact ih1 _ _ _ _ _ _ _ _ _ _ _ _ _ _ _ _ _ _ _)
   | (with_reducible exact impl_Better.mono _ _ _ _ _ _ _ _ _)
   | (with_reducible exact LeO.refl _)
   | (with_reducible exact LeO.none _)
   | (with_reducible refine LeO.ite ?_ ?_)
   | (with_reducible refine LeO.bind ?_ (fun _ => ?_))
   | exact ih0 _ _ _ _ _ _
   | exact ih1 _ _ _ _ _ _ _ _ _ _ _ _ _ _ _ _ _ _ _
   | exact impl_Better.mono _ _ _ _ _ _ _ _ _
   | exact LeO.none _
   | refine LeO.ite ?_ ?_
   | refine LeO.bind ?_ (fun _ => ?_)
theorem impl_Bridge_rootPort.mono : ∀ a0 a1 k, LeO (impl_Bridge_rootPort.f k a0 a1) (impl_Bridge_rootPort.f (k + 1) a0 a1) := by
 intro a0 a1 k
 obtain ⟨ih0, ih1⟩ := impl_Bridge_rootPort.mono_l k
 unfold impl_Bridge_rootPort.f
 repeat' first
   | (with_reducible exact ih0 _ _ _ _ _ _)
   | (with_reducible exact ih1 _ _ _ _ _ _ _ _ _ _ _ _ _ _ _ _ _ _ _)
   | (with_reducible exact impl_Better.mono _ _ _ _ _ _ _ _ _)
   | (with_reducible exact LeO.refl _)
   | (with_reducible exact LeO.none _)
   | (with_reducible refine LeO.ite ?_ ?_)
   | (with_reducible refine LeO.bind ?_ (fun _ => ?_))
   | exact ih0 _ _ _ _ _ _
   | exact ih1 _ _ _ _ _ _ _ _ _ _ _ _ _ _ _ _ _ _ _
   | exact impl_Better.mono _ _ _ _ _ _ _ _ _
   | exact LeO.none _
   | refine LeO.ite ?_ ?_
   | refine LeO.bind ?_ (fun _ => ?_)
def impl_Bridge_rootPort.T5 : Bool × List (List Nat × List Nat) := (true, [([], []), ([0], [0]), ([1], [1]), ([2], [2]), ([3], [3]), ([4, 3], [3, 4]), ([5, 3], [3, 5]), ([3], [3]), ([7, 3], [3, 7]), ([8, 3], [3, 8]), ([9, 3], [3, 9]), ([6, 10, 3], [3, 6, 10]), ([3, 11], [3, 11]), ([12, 3], [12]), ([13], [13]), ([14, 13], [13, 14]), ([15, 13], [13, 15]), ([13], [13]), ([17, 13], [13, 17]), ([18, 13], [13, 18]), ([19, 13], [13, 19]), ([16, 20, 13], [13, 16, 20]), ([13, 21], [13, 21]), ([22, 13], [22]), ([23], [23]), ([24, 23], [23, 24]), ([25, 23], [23, 25]), ([26, 23], [23, 26]), ([23, 27], [23, 27]), ([28, 23], [28]), ([29], [29]), ([30, 29], [29, 30]), ([31, 29], [29, 31]), ([29, 32], [29, 32])])
def impl_Bridge_rootPort.B5 : List Nat := [0, 1, 3, 7, 15, 31, 63, 15, 143, 399, 911, 2047, 4095, 8191, 16383, 32767, 65535, 16383, 147455, 409599, 933887, 2097151, 4194303, 8388607, 16777215, 33554431, 67108863, 134217727, 268435455, 536870911, 1073741823, 2147483647, 4294967295, 8589934591]
theorem impl_Bridge_rootPort.tab5 : rtab .any (opsOf Try.f96 5) = impl_Bridge_rootPort.T5 := by kernel_rfl
theorem impl_Bridge_rootPort.bits5 : waitsOk impl_Bridge_rootPort.T5.2 impl_Bridge_rootPort.B5 = true := by kernel_rfl
def impl_Bridge_rootPort.T6 : Bool × List (List Nat × List Nat) := (true, [([], []), ([0], [0]), ([1], [1]), ([2], [2]), ([3, 2], [2, 3]), ([2], [2]), ([5, 2], [2, 5]), ([6, 2], [2, 6]), ([7, 2], [2, 7]), ([2], [2]), ([8, 9, 2], [2, 8, 9]), ([10, 2], [2, 10]), ([11, 2], [2, 11]), ([4, 12, 2, 2], [2, 4, 12]), ([2, 13], [2, 13])])
def impl_Bridge_rootPort.B6 : List Nat := [0, 1, 3, 7, 15, 7, 39, 103, 231, 7, 999, 2023, 4071, 8191, 16383]
theorem impl_Bridge_rootPort.tab6 : rtab .any (opsOf Try.f96 6) = impl_Bridge_rootPort.T6 := by kernel_rfl
theorem impl_Bridge_rootPort.bits6 : waitsOk impl_Bridge_rootPort.T6.2 impl_Bridge_rootPort.B6 = true := by kernel_rfl
set_option maxHeartbeats 60000000 in
set_option maxRecDepth 100000 in
theorem impl_Bridge_rootPort.calls (k : Nat) (a0_0 : Int) (A0_1 : Option Addr) (c0_1 : Nat) (l0_1 : List (S109)) (r : Int) (w : World) (gb : Nat) (hBK : w.heap[gb]? = some (.cells #[.int .i64 a0_0, .slice A0_1 l0_1.length c0_1] 66 (0, 0))) (hr0_1 : Kd.C k109 w A0_1 l0_1.length l0_1) (hc0_1 : l0_1.length ≤ c0_1) (h : impl_Bridge_rootPort.f k a0_0 l0_1 = some r) :
  Calls Try.prog 96 #[.pointer (some ⟨gb, 0, none⟩)] w fun e w' => e = .returned (.int .i64 r) ∧ Below w.heap.size w w' := by
 have hu66 := Try.underlying66
 have hu109 := Try.underlying109
 have hu77 := Try.underlying77
 have HR0_1 := aM hr0_1
 have HC0_1 := aM hc0_1
 clear hr0_1 hc0_1
 have HB := aM (Below.refl w.heap.size w)
 have H : (impl_Bridge_rootPort.l0 k (-1) l0_1 (l0_1.length : Int) 0 a0_0 l0_1) = some r := h
 clear h
 have H' := aM H
 clear H
 go_enter Try.func96, Try.ntmps96
 have BK218 := aM hBK
 clear hBK
 have hcz3_0 : w.cell? ⟨gb, 0, none⟩ = some (.int .i64 a0_0) := (blk_cell BK218.out 0).trans rfl
 have hcz3_1 : w.cell? ⟨gb, 1, none⟩ = some (.slice A0_1 l0_1.length c0_1) := (blk_cell BK218.out 1).trans rfl
 have hfz3_0 := blk_frozen BK218.out 0
 have hfz3_1 := blk_frozen BK218.out 1
 go_wp2
 go_loopg [3, 11] k (fun kq v3 v11 w' => ∃ (x3_1 : Int) (x11_1 : Int), v3 = .int .i64 x3_1 ∧ v11 = .int .i64 x11_1 ∧ Aside0 (impl_Bridge_rootPort.l0 kq x3_1 l0_1 (l0_1.length : Int) x11_1 a0_0 l0_1 = some r) ∧ Aside0 (kq ≤ k) ∧ Aside0 (w'.heap[gb]? = some (.cells #[.int .i64 a0_0, (.slice A0_1 l0_1.length c0_1)] 66 (0, 0))) ∧ Aside0 (Below w.heap.size w w'))
 case atStart => exact ⟨((-1)), (0), (by first | rfl | (simp; done) | (simp [*]; done)), (by first | rfl | (simp; done) | (simp [*]; done)), H', ⟨Nat.le_refl _⟩, ⟨by (with_reducible repeat (first | refine blk_drewN ?_ _ | refine blk_drew ?_ | refine blk_alloc ?_ _)); exact BK218.out⟩, ⟨by repeat (first | (with_reducible first | exact HB.out | apply below_alloc | apply pw_below_drewN | apply below_drew1 | refine below_set ?_ GE218.out) | exact HB.out)⟩⟩
 case round =>
  clear H'
  try clear p2
  try clear hcz3_0
  try clear hcz3_1
  try clear hfz3_0
  try clear hfz3_1
  obtain ⟨x3_1, x11_1, rfl, rfl, HA, HK1, BK218, HB⟩ := hrel
  cases gk with
  | zero => exact absurd HA.out (by simp [impl_Bridge_rootPort.l0])
  | succ k1 =>
   have H := HA.out
   clear HA
   simp only [impl_Bridge_rootPort.l0] at H
   by_cases c4 : x11_1 < (l0_1.length : Int)
   case neg =>
    rw [if_neg c4] at H
    have c4b0 : decide (x11_1 < (l0_1.length : Int)) = false := decide_eq_false c4
    clear c4
    obtain rfl := Option.some.inj H
    go_wp2
    go_ret
    exact ⟨by first | rfl | (simp [errW_none, errW_some] <;> rfl) | (simp [*, errW_none, errW_some] <;> rfl), by repeat (first | (with_reducible first | exact HB.out | apply below_alloc | apply pw_below_drewN | apply below_drew1 | refine below_set ?_ GE218.out) | exact HB.out)⟩
   rw [if_pos c4] at H
   have c4b0 : decide (x11_1 < (l0_1.length : Int)) = true := decide_eq_true c4
   clear c4
   by_cases c5 : 0 ≤ x11_1
   case neg =>
    rw [if_neg c5] at H
    exact absurd H (by simp)
   rw [if_pos c5] at H
   have c5b0 : decide (0 ≤ x11_1) = true := decide_eq_true c5
   clear c5
   by_cases c6 : x11_1 < (l0_1.length : Int)
   case neg =>
    rw [if_neg c6] at H
    exact absurd H (by simp)
   rw [if_pos c6] at H
   have c6b0 : decide (x11_1 < (l0_1.length : Int)) = true := decide_eq_true c6
   clear c6
   have HC7 := aM H
   clear H
   have p219 : 0 ≤ (x11_1 : Int) := of_decide_eq_true (by first | (with_reducible assumption) | assumption)
   have q219 : x11_1 < (l0_1.length : Int) := of_decide_eq_true (by first | (with_reducible assumption) | assumption)
   obtain ⟨ad219, e219, hx219_0, hx219_1, hx219_2, hx219_3, hx219_4, hx219_5, hx219_6, hx219_7, hx219_8, hx219_9, hx219_10⟩ := at_T109 HR0_1.out x11_1 p219 q219
   cases e219
   replace hx219_0 := (HB.out.cell (World.block_lt_of_cell? w _ hx219_0)).trans hx219_0
   replace hx219_1 := (HB.out.cell (World.block_lt_of_cell? w _ hx219_1)).trans hx219_1
   replace hx219_2 := (HB.out.cell (World.block_lt_of_cell? w _ hx219_2)).trans hx219_2
   replace hx219_3 := (HB.out.cell (World.block_lt_of_cell? w _ hx219_3)).trans hx219_3
   replace hx219_4 := (HB.out.cell (World.block_lt_of_cell? w _ hx219_4)).trans hx219_4
   replace hx219_5 := (HB.out.cell (World.block_lt_of_cell? w _ hx219_5)).trans hx219_5
   replace hx219_6 := (HB.out.cell (World.block_lt_of_cell? w _ hx219_6)).trans hx219_6
   replace hx219_7 := (HB.out.cell (World.block_lt_of_cell? w _ hx219_7)).trans hx219_7
   replace hx219_8 := (HB.out.cell (World.block_lt_of_cell? w _ hx219_8)).trans hx219_8
   replace hx219_9 := (HB.out.cell (World.block_lt_of_cell? w _ hx219_9)).trans hx219_9
   replace hx219_10 := (HB.out.cell (World.block_lt_of_cell? w _ hx219_10)).trans hx219_10
   replace p219 := eq_true p219
   replace q219 := eq_true q219
   go_upto_region 5 with (first | ((with_reducible refine gate_dst (N := 5) rfl ?_); refine box_event ?hg (N := 5) ?hd (cs := #[.bool false, .bool false, .int .i64 0, .int .i64 0, .int .i64 0, .int .i64 0, .int .i64 0, .int .i64 0, .int .i64 0, .int .i64 0, .bool false]) (t := 109) ?hr ?_; (case hd => rfl); (case hg => rfl); (case hr => first | (go_simp; done) | (go_simp; rfl)); intro gb220 hg w8 hbox hb; have n0_ := aM (blk_below (g := gb) (o := .cells #[.int .i64 a0_0, .slice (some ad219) l0_1.length c0_1] 66 (0, 0)) (by (with_reducible repeat (first | refine blk_drewN ?_ _ | refine blk_drew ?_ | refine blk_alloc ?_ _)); exact BK218.out) hb); have n1_ := aM (below_step (by repeat (first | (with_reducible first | exact HB.out | apply below_alloc | apply pw_below_drewN | apply below_drew1 | refine below_set ?_ GE218.out) | exact HB.out)) hb); have n2_ := aM (hbox); have n3_ := aM ((by rw [hg]; exact (below_size (by repeat (first | (with_reducible first | exact HB.out | apply below_alloc | apply pw_below_drewN | apply below_drew1 | refine below_set ?_ GE218.out) | exact HB.out))) : w.heap.size ≤ gb220)); have n4_ := aM ((by rw [hg]; exact (below_size (by repeat (first | (with_reducible first | exact HB.out | apply below_alloc | apply pw_below_drewN | apply below_drew1 | refine below_set ?_ GE218.out) | exact HB.out))) : w.heap.size ≤ gb220)); have n5_ := aM ((by rw [hg]; exact Nat.ne_of_lt (blk_lt (g := gb) (o := .cells #[.int .i64 a0_0, .slice (some ad219) l0_1.length c0_1] 66 (0, 0)) (by (with_reducible repeat (first | refine blk_drewN ?_ _ | refine blk_drew ?_ | refine blk_alloc ?_ _)); exact BK218.out)) : gb ≠ gb220)); have n6_ := aM ((by rw [hg]; exact Nat.ne_of_gt (blk_lt (g := gb) (o := .cells #[.int .i64 a0_0, .slice (some ad219) l0_1.length c0_1] 66 (0, 0)) (by (with_reducible repeat (first | refine blk_drewN ?_ _ | refine blk_drew ?_ | refine blk_alloc ?_ _)); exact BK218.out)) : gb220 ≠ gb)); clear BK218; clear HB; have BK218 := n0_; have HB := n1_; have BK220 := n2_; have GW220 := n3_; have GE220 := n4_; have NB218_220 := n5_; have NB220_218 := n6_; clear n0_ n1_ n2_ n3_ n4_ n5_ n6_; clear hb hbox hg; have hnb9 := NB220_218.out; have hnc9 := NB218_220.out; have hcz10_0 : w8.cell? ⟨gb220, 0, none⟩ = some (.bool false) := (blk_cell BK220.out 0).trans rfl; have hcz10_1 : w8.cell? ⟨gb220, 1, none⟩ = some (.bool false) := (blk_cell BK220.out 1).trans rfl; have hcz10_2 : w8.cell? ⟨gb220, 2, none⟩ = some (.int .i64 0) := (blk_cell BK220.out 2).trans rfl; have hcz10_3 : w8.cell? ⟨gb220, 3, none⟩ = some (.int .i64 0) := (blk_cell BK220.out 3).trans rfl; have hcz10_4 : w8.cell? ⟨gb220, 4, none⟩ = some (.int .i64 0) := (blk_cell BK220.out 4).trans rfl; have hcz10_5 : w8.cell? ⟨gb220, 5, none⟩ = some (.int .i64 0) := (blk_cell BK220.out 5).trans rfl; have hcz10_6 : w8.cell? ⟨gb220, 6, none⟩ = some (.int .i64 0) := (blk_cell BK220.out 6).trans rfl; have hcz10_7 : w8.cell? ⟨gb220, 7, none⟩ = some (.int .i64 0) := (blk_cell BK220.out 7).trans rfl; have hcz10_8 : w8.cell? ⟨gb220, 8, none⟩ = some (.int .i64 0) := (blk_cell BK220.out 8).trans rfl; have hcz10_9 : w8.cell? ⟨gb220, 9, none⟩ = some (.int .i64 0) := (blk_cell BK220.out 9).trans rfl; have hcz10_10 : w8.cell? ⟨gb220, 10, none⟩ = some (.bool false) := (blk_cell BK220.out 10).trans rfl; have hfz10_0 := blk_frozen BK220.out 0; have hfz10_1 := blk_frozen BK220.out 1; have hfz10_2 := blk_frozen BK220.out 2; have hfz10_3 := blk_frozen BK220.out 3; have hfz10_4 := blk_frozen BK220.out 4; have hfz10_5 := blk_frozen BK220.out 5; have hfz10_6 := blk_frozen BK220.out 6; have hfz10_7 := blk_frozen BK220.out 7; have hfz10_8 := blk_frozen BK220.out 8; have hfz10_9 := blk_frozen BK220.out 9; have hfz10_10 := blk_frozen BK220.out 10))
   (try simp only [Act.put, sA, sZ, sS])
   go_cut [49] (fun v49 wc => ∃ (kq : Nat) (x49_6 : Bool), v49 = .bool x49_6 ∧ Aside0 (impl_Bridge_rootPort.j1 kq x3_1 x11_1 l0_1 (l0_1.length : Int) x11_1 x49_6 a0_0 l0_1 ((rd_T109 l0_1 x11_1).f0) ((rd_T109 l0_1 x11_1).f1) ((rd_T109 l0_1 x11_1).f2.f0) ((rd_T109 l0_1 x11_1).f2.f1) ((rd_T109 l0_1 x11_1).f2.f2) ((rd_T109 l0_1 x11_1).f2.f3) ((rd_T109 l0_1 x11_1).f3) ((rd_T109 l0_1 x11_1).f4) ((rd_T109 l0_1 x11_1).f5) ((rd_T109 l0_1 x11_1).f6) ((rd_T109 l0_1 x11_1).f7) = some r) ∧ Aside0 (kq ≤ k1) ∧ Aside0 (wc.heap[gb]? = some (.cells #[.int .i64 a0_0, (.slice (some ad219) l0_1.length c0_1)] 66 (0, 0))) ∧ Aside0 (wc.heap[gb220]? = some (.cells #[.bool ((rd_T109 l0_1 x11_1).f0), .bool ((rd_T109 l0_1 x11_1).f1), .int .i64 ((rd_T109 l0_1 x11_1).f2.f0), .int .i64 ((rd_T109 l0_1 x11_1).f2.f1), .int .i64 ((rd_T109 l0_1 x11_1).f2.f2), .int .i64 ((rd_T109 l0_1 x11_1).f2.f3), .int .i64 ((rd_T109 l0_1 x11_1).f3), .int .i64 ((rd_T109 l0_1 x11_1).f4), .int .i64 ((rd_T109 l0_1 x11_1).f5), .int .i64 ((rd_T109 l0_1 x11_1).f6), .bool ((rd_T109 l0_1 x11_1).f7)] 109 (0, 0))) ∧ Aside0 (Below w.heap.size w wc))
   case first =>
    have H := HC7.out
    clear HC7
    obtain ⟨bq11, hbq11⟩ : ∃ b_ : Bool, b_ = ((rd_T109 l0_1 x11_1).f1) := ⟨_, rfl⟩
    replace H : (if (bq11 = true) then (if ((rd_T109 l0_1 x11_1).f2.f2) = a0_0 then (impl_Bridge_rootPort.j1 k1 x3_1 x11_1 l0_1 (l0_1.length : Int) x11_1 true a0_0 l0_1 ((rd_T109 l0_1 x11_1).f0) bq11 ((rd_T109 l0_1 x11_1).f2.f0) ((rd_T109 l0_1 x11_1).f2.f1) ((rd_T109 l0_1 x11_1).f2.f2) ((rd_T109 l0_1 x11_1).f2.f3) ((rd_T109 l0_1 x11_1).f3) ((rd_T109 l0_1 x11_1).f4) ((rd_T109 l0_1 x11_1).f5) ((rd_T109 l0_1 x11_1).f6) ((rd_T109 l0_1 x11_1).f7)) else (if ((rd_T109 l0_1 x11_1).f2.f0) ≥ a0_0 then (impl_Bridge_rootPort.j1 k1 x3_1 x11_1 l0_1 (l0_1.length : Int) x11_1 true a0_0 l0_1 ((rd_T109 l0_1 x11_1).f0) bq11 ((rd_T109 l0_1 x11_1).f2.f0) ((rd_T109 l0_1 x11_1).f2.f1) ((rd_T109 l0_1 x11_1).f2.f2) ((rd_T109 l0_1 x11_1).f2.f3) ((rd_T109 l0_1 x11_1).f3) ((rd_T109 l0_1 x11_1).f4) ((rd_T109 l0_1 x11_1).f5) ((rd_T109 l0_1 x11_1).f6) ((rd_T109 l0_1 x11_1).f7)) else (if ((rd_T109 l0_1 x11_1).f2.f1) ≥ 20 then (impl_Bridge_rootPort.j1 k1 x3_1 x11_1 l0_1 (l0_1.length : Int) x11_1 true a0_0 l0_1 ((rd_T109 l0_1 x11_1).f0) bq11 ((rd_T109 l0_1 x11_1).f2.f0) ((rd_T109 l0_1 x11_1).f2.f1) ((rd_T109 l0_1 x11_1).f2.f2) ((rd_T109 l0_1 x11_1).f2.f3) ((rd_T109 l0_1 x11_1).f3) ((rd_T109 l0_1 x11_1).f4) ((rd_T109 l0_1 x11_1).f5) ((rd_T109 l0_1 x11_1).f6) ((rd_T109 l0_1 x11_1).f7)) else (impl_Bridge_rootPort.j1 k1 x3_1 x11_1 l0_1 (l0_1.length : Int) x11_1 (decide (((rd_T109 l0_1 x11_1).f3) ≥ 8)) a0_0 l0_1 ((rd_T109 l0_1 x11_1).f0) bq11 ((rd_T109 l0_1 x11_1).f2.f0) ((rd_T109 l0_1 x11_1).f2.f1) ((rd_T109 l0_1 x11_1).f2.f2) ((rd_T109 l0_1 x11_1).f2.f3) ((rd_T109 l0_1 x11_1).f3) ((rd_T109 l0_1 x11_1).f4) ((rd_T109 l0_1 x11_1).f5) ((rd_T109 l0_1 x11_1).f6) ((rd_T109 l0_1 x11_1).f7))))) else (impl_Bridge_rootPort.j1 k1 x3_1 x11_1 l0_1 (l0_1.length : Int) x11_1 true a0_0 l0_1 ((rd_T109 l0_1 x11_1).f0) bq11 ((rd_T109 l0_1 x11_1).f2.f0) ((rd_T109 l0_1 x11_1).f2.f1) ((rd_T109 l0_1 x11_1).f2.f2) ((rd_T109 l0_1 x11_1).f2.f3) ((rd_T109 l0_1 x11_1).f3) ((rd_T109 l0_1 x11_1).f4) ((rd_T109 l0_1 x11_1).f5) ((rd_T109 l0_1 x11_1).f6) ((rd_T109 l0_1 x11_1).f7))) = some r := by rw [← hbq11] at H; exact H
    have Nbq11 := aM hbq11
    clear hbq11
    (try rw [← Nbq11.out])
    by_cases c12 : (bq11 = true)
    case neg =>
     replace c12 := Bool.eq_false_iff.mpr c12
     subst c12
     have H1 : (impl_Bridge_rootPort.j1 k1 x3_1 x11_1 l0_1 (l0_1.length : Int) x11_1 true a0_0 l0_1 ((rd_T109 l0_1 x11_1).f0) false ((rd_T109 l0_1 x11_1).f2.f0) ((rd_T109 l0_1 x11_1).f2.f1) ((rd_T109 l0_1 x11_1).f2.f2) ((rd_T109 l0_1 x11_1).f2.f3) ((rd_T109 l0_1 x11_1).f3) ((rd_T109 l0_1 x11_1).f4) ((rd_T109 l0_1 x11_1).f5) ((rd_T109 l0_1 x11_1).f6) ((rd_T109 l0_1 x11_1).f7)) = some r := by rw [if_neg (show ¬ (false = true) by decide)] at H; exact H
     clear H
     have H := H1
     clear H1
     have H' := aM H
     clear H
     try go_wp2
     have n0_ : Aside0 ((((((((((((w8.setCell ⟨gb220, 0, none⟩ (.bool ((rd_T109 l0_1 x11_1).f0))).setCell ⟨gb220, 1, none⟩ (.bool (false))).setCell ⟨gb220, 2, none⟩ (.int .i64 ((rd_T109 l0_1 x11_1).f2.f0))).setCell ⟨gb220, 3, none⟩ (.int .i64 ((rd_T109 l0_1 x11_1).f2.f1))).setCell ⟨gb220, 4, none⟩ (.int .i64 ((rd_T109 l0_1 x11_1).f2.f2))).setCell ⟨gb220, 5, none⟩ (.int .i64 ((rd_T109 l0_1 x11_1).f2.f3))).setCell ⟨gb220, 6, none⟩ (.int .i64 ((rd_T109 l0_1 x11_1).f3))).setCell ⟨gb220, 7, none⟩ (.int .i64 ((rd_T109 l0_1 x11_1).f4))).setCell ⟨gb220, 8, none⟩ (.int .i64 ((rd_T109 l0_1 x11_1).f5))).setCell ⟨gb220, 9, none⟩ (.int .i64 ((rd_T109 l0_1 x11_1).f6))).setCell ⟨gb220, 10, none⟩ (.bool ((rd_T109 l0_1 x11_1).f7))).heap[gb]? = some (.cells #[.int .i64 a0_0, .slice (some ad219) l0_1.length c0_1] 66 (0, 0))) := ⟨by (with_reducible repeat (first | refine blk_drewN ?_ _ | refine blk_drew ?_ | refine blk_alloc ?_ _)); refine blk_far ?_ NB218_220.out _; (with_reducible repeat (first | refine blk_drewN ?_ _ | refine blk_drew ?_ | refine blk_alloc ?_ _)); refine blk_far ?_ NB218_220.out _; (with_reducible repeat (first | refine blk_drewN ?_ _ | refine blk_drew ?_ | refine blk_alloc ?_ _)); refine blk_far ?_ NB218_220.out _; (with_reducible repeat (first | refine blk_drewN ?_ _ | refine blk_drew ?_ | refine blk_alloc ?_ _)); refine blk_far ?_ NB218_220.out _; (with_reducible repeat (first | refine blk_drewN ?_ _ | refine blk_drew ?_ | refine blk_alloc ?_ _)); refine blk_far ?_ NB218_220.out _; (with_reducible repeat (first | refine blk_drewN ?_ _ | refine blk_drew ?_ | refine blk_alloc ?_ _)); refine blk_far ?_ NB218_220.out _; (with_reducible repeat (first | refine blk_drewN ?_ _ | refine blk_drew ?_ | refine blk_alloc ?_ _)); refine blk_far ?_ NB218_220.out _; (with_reducible repeat (first | refine blk_drewN ?_ _ | refine blk_drew ?_ | refine blk_alloc ?_ _)); refine blk_far ?_ NB218_220.out _; (with_reducible repeat (first | refine blk_drewN ?_ _ | refine blk_drew ?_ | refine blk_alloc ?_ _)); refine blk_far ?_ NB218_220.out _; (with_reducible repeat (first | refine blk_drewN ?_ _ | refine blk_drew ?_ | refine blk_alloc ?_ _)); refine blk_far ?_ NB218_220.out _; (with_reducible repeat (first | refine blk_drewN ?_ _ | refine blk_drew ?_ | refine blk_alloc ?_ _)); refine blk_far ?_ NB218_220.out _; (with_reducible repeat (first | refine blk_drewN ?_ _ | refine blk_drew ?_ | refine blk_alloc ?_ _)); exact BK218.out⟩
     have n1_ : Aside0 ((((((((((((w8.setCell ⟨gb220, 0, none⟩ (.bool ((rd_T109 l0_1 x11_1).f0))).setCell ⟨gb220, 1, none⟩ (.bool (false))).setCell ⟨gb220, 2, none⟩ (.int .i64 ((rd_T109 l0_1 x11_1).f2.f0))).setCell ⟨gb220, 3, none⟩ (.int .i64 ((rd_T109 l0_1 x11_1).f2.f1))).setCell ⟨gb220, 4, none⟩ (.int .i64 ((rd_T109 l0_1 x11_1).f2.f2))).setCell ⟨gb220, 5, none⟩ (.int .i64 ((rd_T109 l0_1 x11_1).f2.f3))).setCell ⟨gb220, 6, none⟩ (.int .i64 ((rd_T109 l0_1 x11_1).f3))).setCell ⟨gb220, 7, none⟩ (.int .i64 ((rd_T109 l0_1 x11_1).f4))).setCell ⟨gb220, 8, none⟩ (.int .i64 ((rd_T109 l0_1 x11_1).f5))).setCell ⟨gb220, 9, none⟩ (.int .i64 ((rd_T109 l0_1 x11_1).f6))).setCell ⟨gb220, 10, none⟩ (.bool ((rd_T109 l0_1 x11_1).f7))).heap[gb220]? = some (.cells #[.bool ((rd_T109 l0_1 x11_1).f0), .bool false, .int .i64 ((rd_T109 l0_1 x11_1).f2.f0), .int .i64 ((rd_T109 l0_1 x11_1).f2.f1), .int .i64 ((rd_T109 l0_1 x11_1).f2.f2), .int .i64 ((rd_T109 l0_1 x11_1).f2.f3), .int .i64 ((rd_T109 l0_1 x11_1).f3), .int .i64 ((rd_T109 l0_1 x11_1).f4), .int .i64 ((rd_T109 l0_1 x11_1).f5), .int .i64 ((rd_T109 l0_1 x11_1).f6), .bool ((rd_T109 l0_1 x11_1).f7)] 109 (0, 0))) := ⟨by (with_reducible repeat (first | refine blk_drewN ?_ _ | refine blk_drew ?_ | refine blk_alloc ?_ _)); refine blk_put (cs := #[.bool ((rd_T109 l0_1 x11_1).f0), .bool (false), .int .i64 ((rd_T109 l0_1 x11_1).f2.f0), .int .i64 ((rd_T109 l0_1 x11_1).f2.f1), .int .i64 ((rd_T109 l0_1 x11_1).f2.f2), .int .i64 ((rd_T109 l0_1 x11_1).f2.f3), .int .i64 ((rd_T109 l0_1 x11_1).f3), .int .i64 ((rd_T109 l0_1 x11_1).f4), .int .i64 ((rd_T109 l0_1 x11_1).f5), .int .i64 ((rd_T109 l0_1 x11_1).f6), .bool false]) ?_ 10 _ rfl; (with_reducible repeat (first | refine blk_drewN ?_ _ | refine blk_drew ?_ | refine blk_alloc ?_ _)); refine blk_put (cs := #[.bool ((rd_T109 l0_1 x11_1).f0), .bool (false), .int .i64 ((rd_T109 l0_1 x11_1).f2.f0), .int .i64 ((rd_T109 l0_1 x11_1).f2.f1), .int .i64 ((rd_T109 l0_1 x11_1).f2.f2), .int .i64 ((rd_T109 l0_1 x11_1).f2.f3), .int .i64 ((rd_T109 l0_1 x11_1).f3), .int .i64 ((rd_T109 l0_1 x11_1).f4), .int .i64 ((rd_T109 l0_1 x11_1).f5), .int .i64 0, .bool false]) ?_ 9 _ rfl; (with_reducible repeat (first | refine blk_drewN ?_ _ | refine blk_drew ?_ | refine blk_alloc ?_ _)); refine blk_put (cs := #[.bool ((rd_T109 l0_1 x11_1).f0), .bool (false), .int .i64 ((rd_T109 l0_1 x11_1).f2.f0), .int .i64 ((rd_T109 l0_1 x11_1).f2.f1), .int .i64 ((rd_T109 l0_1 x11_1).f2.f2), .int .i64 ((rd_T109 l0_1 x11_1).f2.f3), .int .i64 ((rd_T109 l0_1 x11_1).f3), .int .i64 ((rd_T109 l0_1 x11_1).f4), .int .i64 0, .int .i64 0, .bool false]) ?_ 8 _ rfl; (with_reducible repeat (first | refine blk_drewN ?_ _ | refine blk_drew ?_ | refine blk_alloc ?_ _)); refine blk_put (cs := #[.bool ((rd_T109 l0_1 x11_1).f0), .bool (false), .int .i64 ((rd_T109 l0_1 x11_1).f2.f0), .int .i64 ((rd_T109 l0_1 x11_1).f2.f1), .int .i64 ((rd_T109 l0_1 x11_1).f2.f2), .int .i64 ((rd_T109 l0_1 x11_1).f2.f3), .int .i64 ((rd_T109 l0_1 x11_1).f3), .int .i64 0, .int .i64 0, .int .i64 0, .bool false]) ?_ 7 _ rfl; (with_reducible repeat (first | refine blk_drewN ?_ _ | refine blk_drew ?_ | refine blk_alloc ?_ _)); refine blk_put (cs := #[.bool ((rd_T109 l0_1 x11_1).f0), .bool (false), .int .i64 ((rd_T109 l0_1 x11_1).f2.f0), .int .i64 ((rd_T109 l0_1 x11_1).f2.f1), .int .i64 ((rd_T109 l0_1 x11_1).f2.f2), .int .i64 ((rd_T109 l0_1 x11_1).f2.f3), .int .i64 0, .int .i64 0, .int .i64 0, .int .i64 0, .bool false]) ?_ 6 _ rfl; (with_reducible repeat (first | refine blk_drewN ?_ _ | refine blk_drew ?_ | refine blk_alloc ?_ _)); refine blk_put (cs := #[.bool ((rd_T109 l0_1 x11_1).f0), .bool (false), .int .i64 ((rd_T109 l0_1 x11_1).f2.f0), .int .i64 ((rd_T109 l0_1 x11_1).f2.f1), .int .i64 ((rd_T109 l0_1 x11_1).f2.f2), .int .i64 0, .int .i64 0, .int .i64 0, .int .i64 0, .int .i64 0, .bool false]) ?_ 5 _ rfl; (with_reducible repeat (first | refine blk_drewN ?_ _ | refine blk_drew ?_ | refine blk_alloc ?_ _)); refine blk_put (cs := #[.bool ((rd_T109 l0_1 x11_1).f0), .bool (false), .int .i64 ((rd_T109 l0_1 x11_1).f2.f0), .int .i64 ((rd_T109 l0_1 x11_1).f2.f1), .int .i64 0, .int .i64 0, .int .i64 0, .int .i64 0, .int .i64 0, .int .i64 0, .bool false]) ?_ 4 _ rfl; (with_reducible repeat (first | refine blk_drewN ?_ _ | refine blk_drew ?_ | refine blk_alloc ?_ _)); refine blk_put (cs := #[.bool ((rd_T109 l0_1 x11_1).f0), .bool (false), .int .i64 ((rd_T109 l0_1 x11_1).f2.f0), .int .i64 0, .int .i64 0, .int .i64 0, .int .i64 0, .int .i64 0, .int .i64 0, .int .i64 0, .bool false]) ?_ 3 _ rfl; (with_reducible repeat (first | refine blk_drewN ?_ _ | refine blk_drew ?_ | refine blk_alloc ?_ _)); refine blk_put (cs := #[.bool ((rd_T109 l0_1 x11_1).f0), .bool (false), .int .i64 0, .int .i64 0, .int .i64 0, .int .i64 0, .int .i64 0, .int .i64 0, .int .i64 0, .int .i64 0, .bool false]) ?_ 2 _ rfl; (with_reducible repeat (first | refine blk_drewN ?_ _ | refine blk_drew ?_ | refine blk_alloc ?_ _)); refine blk_put (cs := #[.bool ((rd_T109 l0_1 x11_1).f0), .bool false, .int .i64 0, .int .i64 0, .int .i64 0, .int .i64 0, .int .i64 0, .int .i64 0, .int .i64 0, .int .i64 0, .bool false]) ?_ 1 _ rfl; (with_reducible repeat (first | refine blk_drewN ?_ _ | refine blk_drew ?_ | refine blk_alloc ?_ _)); refine blk_put (cs := #[.bool false, .bool false, .int .i64 0, .int .i64 0, .int .i64 0, .int .i64 0, .int .i64 0, .int .i64 0, .int .i64 0, .int .i64 0, .bool false]) ?_ 0 _ rfl; (with_reducible repeat (first | refine blk_drewN ?_ _ | refine blk_drew ?_ | refine blk_alloc ?_ _)); exact BK220.out⟩
     have n2_ : Aside0 (Below w.heap.size w (((((((((((w8.setCell ⟨gb220, 0, none⟩ (.bool ((rd_T109 l0_1 x11_1).f0))).setCell ⟨gb220, 1, none⟩ (.bool (false))).setCell ⟨gb220, 2, none⟩ (.int .i64 ((rd_T109 l0_1 x11_1).f2.f0))).setCell ⟨gb220, 3, none⟩ (.int .i64 ((rd_T109 l0_1 x11_1).f2.f1))).setCell ⟨gb220, 4, none⟩ (.int .i64 ((rd_T109 l0_1 x11_1).f2.f2))).setCell ⟨gb220, 5, none⟩ (.int .i64 ((rd_T109 l0_1 x11_1).f2.f3))).setCell ⟨gb220, 6, none⟩ (.int .i64 ((rd_T109 l0_1 x11_1).f3))).setCell ⟨gb220, 7, none⟩ (.int .i64 ((rd_T109 l0_1 x11_1).f4))).setCell ⟨gb220, 8, none⟩ (.int .i64 ((rd_T109 l0_1 x11_1).f5))).setCell ⟨gb220, 9, none⟩ (.int .i64 ((rd_T109 l0_1 x11_1).f6))).setCell ⟨gb220, 10, none⟩ (.bool ((rd_T109 l0_1 x11_1).f7)))) := ⟨by repeat (first | (with_reducible first | exact HB.out | apply below_alloc | apply pw_below_drewN | apply below_drew1 | refine below_set ?_ GE218.out | refine below_set ?_ GE220.out) | exact HB.out)⟩
     (try clear BK218)
     (try clear BK220)
     (try clear HB)
     generalize (((((((((((w8.setCell ⟨gb220, 0, none⟩ (.bool ((rd_T109 l0_1 x11_1).f0))).setCell ⟨gb220, 1, none⟩ (.bool (false))).setCell ⟨gb220, 2, none⟩ (.int .i64 ((rd_T109 l0_1 x11_1).f2.f0))).setCell ⟨gb220, 3, none⟩ (.int .i64 ((rd_T109 l0_1 x11_1).f2.f1))).setCell ⟨gb220, 4, none⟩ (.int .i64 ((rd_T109 l0_1 x11_1).f2.f2))).setCell ⟨gb220, 5, none⟩ (.int .i64 ((rd_T109 l0_1 x11_1).f2.f3))).setCell ⟨gb220, 6, none⟩ (.int .i64 ((rd_T109 l0_1 x11_1).f3))).setCell ⟨gb220, 7, none⟩ (.int .i64 ((rd_T109 l0_1 x11_1).f4))).setCell ⟨gb220, 8, none⟩ (.int .i64 ((rd_T109 l0_1 x11_1).f5))).setCell ⟨gb220, 9, none⟩ (.int .i64 ((rd_T109 l0_1 x11_1).f6))).setCell ⟨gb220, 10, none⟩ (.bool ((rd_T109 l0_1 x11_1).f7))) = w24 at n0_ n1_ n2_ ⊢
     have BK218 := n0_
     have BK220 := n1_
     have HB := n2_
     clear n0_ n1_ n2_
     have n0_ := aM (blk_drew BK218.out)
     have n1_ := aM (blk_drew BK220.out)
     have n2_ := aM (below_drew1 HB.out)
     clear BK218
     clear BK220
     clear HB
     have BK218 := n0_
     have BK220 := n1_
     have HB := n2_
     clear n0_ n1_ n2_
     refine start_ (n := 34) (S := fun w' => w'.cell? ⟨gb220, 0, none⟩ = some (.bool ((rd_T109 l0_1 x11_1).f0)) ∧ w'.cell? ⟨gb220, 1, none⟩ = some (.bool false) ∧ w'.cell? ⟨gb220, 2, none⟩ = some (.int .i64 ((rd_T109 l0_1 x11_1).f2.f0)) ∧ w'.cell? ⟨gb220, 3, none⟩ = some (.int .i64 ((rd_T109 l0_1 x11_1).f2.f1)) ∧ w'.cell? ⟨gb220, 4, none⟩ = some (.int .i64 ((rd_T109 l0_1 x11_1).f2.f2)) ∧ w'.cell? ⟨gb220, 5, none⟩ = some (.int .i64 ((rd_T109 l0_1 x11_1).f2.f3)) ∧ w'.cell? ⟨gb220, 6, none⟩ = some (.int .i64 ((rd_T109 l0_1 x11_1).f3)) ∧ w'.cell? ⟨gb220, 7, none⟩ = some (.int .i64 ((rd_T109 l0_1 x11_1).f4)) ∧ w'.cell? ⟨gb220, 8, none⟩ = some (.int .i64 ((rd_T109 l0_1 x11_1).f5)) ∧ w'.cell? ⟨gb220, 9, none⟩ = some (.int .i64 ((rd_T109 l0_1 x11_1).f6)) ∧ w'.cell? ⟨gb220, 10, none⟩ = some (.bool ((rd_T109 l0_1 x11_1).f7))) (ds := []) #[U,U,U,U,U,U,U,U,U,U,U,U,U,U,U,U,U,U,U,U,U,U,U,U,U,U,U,U,U,U,U,U,U,U] (by kernel_rfl) rfl rfl ⟨(blk_cell BK220.out 0).trans rfl, (blk_cell BK220.out 1).trans rfl, (blk_cell BK220.out 2).trans rfl, (blk_cell BK220.out 3).trans rfl, (blk_cell BK220.out 4).trans rfl, (blk_cell BK220.out 5).trans rfl, (blk_cell BK220.out 6).trans rfl, (blk_cell BK220.out 7).trans rfl, (blk_cell BK220.out 8).trans rfl, (blk_cell BK220.out 9).trans rfl, (blk_cell BK220.out 10).trans rfl⟩ (fun hHeld => ?_); refine with_tabW impl_Bridge_rootPort.tab5 impl_Bridge_rootPort.bits5 (fun HT_ HW_ => ?_)
     generalize w24.drew = w25 at BK218 BK220 HB hHeld ⊢
     refine pure_ (i := 0) (N := some 16) (v := ?_) (a' := ?_) #[Y,U,U,U,U,U,U,U,U,U,U,U,U,U,U,U,U,U,U,U,U,U,U,U,U,U,U,U,U,U,U,U,U,U] rfl rfl (any_of HT_.out (by kernel_rfl)) (fun _ _ _ h => h) (Or.inl ⟨by rfl, ?_⟩) ?_ ?_
     rotate_left
     ·intro w'
      go_simp
      with_reducible rfl
     rotate_left
     ·simp only [Act.put, sA, sZ, sS, i64_w, i32_w]
      rfl
     refine take_ (i := 1) (N := some 17) (v := ?_) (a' := ?_) #[Y,Y,U,U,U,U,U,U,U,U,U,U,U,U,U,U,U,U,U,U,U,U,U,U,U,U,U,U,U,U,U,U,U,U] rfl rfl (take_ofW HT_.out HW_.out (by kernel_rfl)) (fun _ _ _ h => h) (Or.inl ⟨by rfl, ?_⟩) hHeld ?_ ?_
     rotate_left
     ·rintro w' ⟨s0, s1, s2, s3, s4, s5, s6, s7, s8, s9, s10⟩
      go_simp
      with_reducible rfl
     rotate_left
     ·simp only [Act.put, sA, sZ, sS, i64_w, i32_w]
      rfl
     refine pure_ (i := 2) (N := some 18) (v := ?_) (a' := ?_) #[Y,Y,Y,U,U,U,U,U,U,U,U,U,U,U,U,U,U,U,U,U,U,U,U,U,U,U,U,U,U,U,U,U,U,U] rfl rfl (any_of HT_.out (by kernel_rfl)) (fun _ _ _ h => h) (Or.inl ⟨by rfl, ?_⟩) ?_ ?_
     rotate_left
     ·intro w'
      go_simp
      with_reducible rfl
     rotate_left
     ·simp only [Act.put, sA, sZ, sS, i64_w, i32_w]
      rfl
     refine pure_ (i := 3) (N := some 19) (v := ?_) (a' := ?_) #[Y,Y,Y,Y,U,U,U,U,U,U,U,U,U,U,U,U,U,U,U,U,U,U,U,U,U,U,U,U,U,U,U,U,U,U] rfl rfl (any_of HT_.out (by kernel_rfl)) (fun _ _ _ h => h) (Or.inl ⟨by rfl, ?_⟩) ?_ ?_
     rotate_left
     ·intro w'
      go_simp
      with_reducible rfl
     rotate_left
     ·simp only [Act.put, sA, sZ, sS, i64_w, i32_w]
      rfl
     refine pure_ (i := 4) (N := some 20) (v := undef) (a' := ?_) #[Y,Y,Y,Y,Y,U,U,U,U,U,U,U,U,U,U,U,U,U,U,U,U,U,U,U,U,U,U,U,U,U,U,U,U,U] rfl rfl (any_of HT_.out (by kernel_rfl)) (fun _ _ _ h => h) (Or.inr ⟨by rfl, rfl⟩) ?_ ?_
     rotate_left
     ·simp only [Act.put, sA, sZ, sS, i64_w, i32_w]
      rfl
     refine pure_ (i := 5) (N := some 21) (v := undef) (a' := ?_) #[Y,Y,Y,Y,Y,Y,U,U,U,U,U,U,U,U,U,U,U,U,U,U,U,U,U,U,U,U,U,U,U,U,U,U,U,U] rfl rfl (any_of HT_.out (by kernel_rfl)) (fun _ _ _ h => h) (Or.inr ⟨by rfl, rfl⟩) ?_ ?_
     rotate_left
     ·simp only [Act.put, sA, sZ, sS, i64_w, i32_w]
      rfl
     refine pure_ (i := 6) (N := some 22) (v := undef) (a' := ?_) #[Y,Y,Y,Y,Y,Y,Y,U,U,U,U,U,U,U,U,U,U,U,U,U,U,U,U,U,U,U,U,U,U,U,U,U,U,U] rfl rfl (any_of HT_.out (by kernel_rfl)) (fun _ _ _ h => h) (Or.inr ⟨by rfl, rfl⟩) ?_ ?_
     rotate_left
     ·simp only [Act.put, sA, sZ, sS, i64_w, i32_w]
      rfl
     refine pure_ (i := 7) (N := some 23) (v := undef) (a' := ?_) #[Y,Y,Y,Y,Y,Y,Y,Y,U,U,U,U,U,U,U,U,U,U,U,U,U,U,U,U,U,U,U,U,U,U,U,U,U,U] rfl rfl (any_of HT_.out (by kernel_rfl)) (fun _ _ _ h => h) (Or.inr ⟨by rfl, rfl⟩) ?_ ?_
     rotate_left
     ·simp only [Act.put, sA, sZ, sS, i64_w, i32_w]
      rfl
     refine pure_ (i := 8) (N := some 24) (v := undef) (a' := ?_) #[Y,Y,Y,Y,Y,Y,Y,Y,Y,U,U,U,U,U,U,U,U,U,U,U,U,U,U,U,U,U,U,U,U,U,U,U,U,U] rfl rfl (any_of HT_.out (by kernel_rfl)) (fun _ _ _ h => h) (Or.inr ⟨by rfl, rfl⟩) ?_ ?_
     rotate_left
     ·simp only [Act.put, sA, sZ, sS, i64_w, i32_w]
      rfl
     refine pure_ (i := 9) (N := some 25) (v := undef) (a' := ?_) #[Y,Y,Y,Y,Y,Y,Y,Y,Y,Y,U,U,U,U,U,U,U,U,U,U,U,U,U,U,U,U,U,U,U,U,U,U,U,U] rfl rfl (any_of HT_.out (by kernel_rfl)) (fun _ _ _ h => h) (Or.inr ⟨by rfl, rfl⟩) ?_ ?_
     rotate_left
     ·simp only [Act.put, sA, sZ, sS, i64_w, i32_w]
      rfl
     refine pure_ (i := 10) (N := some 26) (v := undef) (a' := ?_) #[Y,Y,Y,Y,Y,Y,Y,Y,Y,Y,Y,U,U,U,U,U,U,U,U,U,U,U,U,U,U,U,U,U,U,U,U,U,U,U] rfl rfl (any_of HT_.out (by kernel_rfl)) (fun _ _ _ h => h) (Or.inr ⟨by rfl, rfl⟩) ?_ ?_
     rotate_left
     ·simp only [Act.put, sA, sZ, sS, i64_w, i32_w]
      rfl
     refine pure_ (i := 11) (N := some 27) (v := undef) (a' := ?_) #[Y,Y,Y,Y,Y,Y,Y,Y,Y,Y,Y,Y,U,U,U,U,U,U,U,U,U,U,U,U,U,U,U,U,U,U,U,U,U,U] rfl rfl (any_of HT_.out (by kernel_rfl)) (fun _ _ _ h => h) (Or.inr ⟨by rfl, rfl⟩) ?_ ?_
     rotate_left
     ·simp only [Act.put, sA, sZ, sS, i64_w, i32_w]
      rfl
     refine pure_ (i := 12) (N := some 28) (v := ?_) (a' := ?_) #[Y,Y,Y,Y,Y,Y,Y,Y,Y,Y,Y,Y,Y,U,U,U,U,U,U,U,U,U,U,U,U,U,U,U,U,U,U,U,U,U] rfl rfl (any_of HT_.out (by kernel_rfl)) (fun _ _ _ h => h) (Or.inl ⟨by rfl, ?_⟩) ?_ ?_
     rotate_left
     ·intro w'
      go_simp
      with_reducible rfl
     rotate_left
     ·simp only [Act.put, sA, sZ, sS, i64_w, i32_w]
      rfl
     refine pure_ (i := 13) (N := some 29) (v := ?_) (a' := ?_) #[Y,Y,Y,Y,Y,Y,Y,Y,Y,Y,Y,Y,Y,Y,U,U,U,U,U,U,U,U,U,U,U,U,U,U,U,U,U,U,U,U] rfl rfl (any_of HT_.out (by kernel_rfl)) (fun _ _ _ h => h) (Or.inl ⟨by rfl, ?_⟩) ?_ ?_
     rotate_left
     ·intro w'
      go_simp
      with_reducible rfl
     rotate_left
     ·simp only [Act.put, sA, sZ, sS, i64_w, i32_w]
      rfl
     refine pure_ (i := 14) (N := some 30) (v := undef) (a' := ?_) #[Y,Y,Y,Y,Y,Y,Y,Y,Y,Y,Y,Y,Y,Y,Y,U,U,U,U,U,U,U,U,U,U,U,U,U,U,U,U,U,U,U] rfl rfl (any_of HT_.out (by kernel_rfl)) (fun _ _ _ h => h) (Or.inr ⟨by rfl, rfl⟩) ?_ ?_
     rotate_left
     ·simp only [Act.put, sA, sZ, sS, i64_w, i32_w]
      rfl
     refine pure_ (i := 15) (N := some 31) (v := undef) (a' := ?_) #[Y,Y,Y,Y,Y,Y,Y,Y,Y,Y,Y,Y,Y,Y,Y,Y,U,U,U,U,U,U,U,U,U,U,U,U,U,U,U,U,U,U] rfl rfl (any_of HT_.out (by kernel_rfl)) (fun _ _ _ h => h) (Or.inr ⟨by rfl, rfl⟩) ?_ ?_
     rotate_left
     ·simp only [Act.put, sA, sZ, sS, i64_w, i32_w]
      rfl
     refine pure_ (i := 16) (N := some 32) (v := undef) (a' := ?_) #[Y,Y,Y,Y,Y,Y,Y,Y,Y,Y,Y,Y,Y,Y,Y,Y,Y,U,U,U,U,U,U,U,U,U,U,U,U,U,U,U,U,U] rfl rfl (any_of HT_.out (by kernel_rfl)) (fun _ _ _ h => h) (Or.inr ⟨by rfl, rfl⟩) ?_ ?_
     rotate_left
     ·simp only [Act.put, sA, sZ, sS, i64_w, i32_w]
      rfl
     refine pure_ (i := 17) (N := some 33) (v := undef) (a' := ?_) #[Y,Y,Y,Y,Y,Y,Y,Y,Y,Y,Y,Y,Y,Y,Y,Y,Y,Y,U,U,U,U,U,U,U,U,U,U,U,U,U,U,U,U] rfl rfl (any_of HT_.out (by kernel_rfl)) (fun _ _ _ h => h) (Or.inr ⟨by rfl, rfl⟩) ?_ ?_
     rotate_left
     ·simp only [Act.put, sA, sZ, sS, i64_w, i32_w]
      rfl
     refine pure_ (i := 18) (N := some 34) (v := undef) (a' := ?_) #[Y,Y,Y,Y,Y,Y,Y,Y,Y,Y,Y,Y,Y,Y,Y,Y,Y,Y,Y,U,U,U,U,U,U,U,U,U,U,U,U,U,U,U] rfl rfl (any_of HT_.out (by kernel_rfl)) (fun _ _ _ h => h) (Or.inr ⟨by rfl, rfl⟩) ?_ ?_
     rotate_left
     ·simp only [Act.put, sA, sZ, sS, i64_w, i32_w]
      rfl
     refine pure_ (i := 19) (N := some 35) (v := undef) (a' := ?_) #[Y,Y,Y,Y,Y,Y,Y,Y,Y,Y,Y,Y,Y,Y,Y,Y,Y,Y,Y,Y,U,U,U,U,U,U,U,U,U,U,U,U,U,U] rfl rfl (any_of HT_.out (by kernel_rfl)) (fun _ _ _ h => h) (Or.inr ⟨by rfl, rfl⟩) ?_ ?_
     rotate_left
     ·simp only [Act.put, sA, sZ, sS, i64_w, i32_w]
      rfl
     refine pure_ (i := 20) (N := some 36) (v := undef) (a' := ?_) #[Y,Y,Y,Y,Y,Y,Y,Y,Y,Y,Y,Y,Y,Y,Y,Y,Y,Y,Y,Y,Y,U,U,U,U,U,U,U,U,U,U,U,U,U] rfl rfl (any_of HT_.out (by kernel_rfl)) (fun _ _ _ h => h) (Or.inr ⟨by rfl, rfl⟩) ?_ ?_
     rotate_left
     ·simp only [Act.put, sA, sZ, sS, i64_w, i32_w]
      rfl
     refine pure_ (i := 21) (N := some 37) (v := undef) (a' := ?_) #[Y,Y,Y,Y,Y,Y,Y,Y,Y,Y,Y,Y,Y,Y,Y,Y,Y,Y,Y,Y,Y,Y,U,U,U,U,U,U,U,U,U,U,U,U] rfl rfl (any_of HT_.out (by kernel_rfl)) (fun _ _ _ h => h) (Or.inr ⟨by rfl, rfl⟩) ?_ ?_
     rotate_left
     ·simp only [Act.put, sA, sZ, sS, i64_w, i32_w]
      rfl
     refine pure_ (i := 22) (N := some 38) (v := ?_) (a' := ?_) #[Y,Y,Y,Y,Y,Y,Y,Y,Y,Y,Y,Y,Y,Y,Y,Y,Y,Y,Y,Y,Y,Y,Y,U,U,U,U,U,U,U,U,U,U,U] rfl rfl (any_of HT_.out (by kernel_rfl)) (fun _ _ _ h => h) (Or.inl ⟨by rfl, ?_⟩) ?_ ?_
     rotate_left
     ·intro w'
      go_simp
      with_reducible rfl
     rotate_left
     ·simp only [Act.put, sA, sZ, sS, i64_w, i32_w]
      rfl
     refine pure_ (i := 23) (N := some 39) (v := ?_) (a' := ?_) #[Y,Y,Y,Y,Y,Y,Y,Y,Y,Y,Y,Y,Y,Y,Y,Y,Y,Y,Y,Y,Y,Y,Y,Y,U,U,U,U,U,U,U,U,U,U] rfl rfl (any_of HT_.out (by kernel_rfl)) (fun _ _ _ h => h) (Or.inl ⟨by rfl, ?_⟩) ?_ ?_
     rotate_left
     ·intro w'
      go_simp
      with_reducible rfl
     rotate_left
     ·simp only [Act.put, sA, sZ, sS, i64_w, i32_w]
      rfl
     refine pure_ (i := 24) (N := some 40) (v := undef) (a' := ?_) #[Y,Y,Y,Y,Y,Y,Y,Y,Y,Y,Y,Y,Y,Y,Y,Y,Y,Y,Y,Y,Y,Y,Y,Y,Y,U,U,U,U,U,U,U,U,U] rfl rfl (any_of HT_.out (by kernel_rfl)) (fun _ _ _ h => h) (Or.inr ⟨by rfl, rfl⟩) ?_ ?_
     rotate_left
     ·simp only [Act.put, sA, sZ, sS, i64_w, i32_w]
      rfl
     refine pure_ (i := 25) (N := some 41) (v := undef) (a' := ?_) #[Y,Y,Y,Y,Y,Y,Y,Y,Y,Y,Y,Y,Y,Y,Y,Y,Y,Y,Y,Y,Y,Y,Y,Y,Y,Y,U,U,U,U,U,U,U,U] rfl rfl (any_of HT_.out (by kernel_rfl)) (fun _ _ _ h => h) (Or.inr ⟨by rfl, rfl⟩) ?_ ?_
     rotate_left
     ·simp only [Act.put, sA, sZ, sS, i64_w, i32_w]
      rfl
     refine pure_ (i := 26) (N := some 42) (v := undef) (a' := ?_) #[Y,Y,Y,Y,Y,Y,Y,Y,Y,Y,Y,Y,Y,Y,Y,Y,Y,Y,Y,Y,Y,Y,Y,Y,Y,Y,Y,U,U,U,U,U,U,U] rfl rfl (any_of HT_.out (by kernel_rfl)) (fun _ _ _ h => h) (Or.inr ⟨by rfl, rfl⟩) ?_ ?_
     rotate_left
     ·simp only [Act.put, sA, sZ, sS, i64_w, i32_w]
      rfl
     refine pure_ (i := 27) (N := some 43) (v := undef) (a' := ?_) #[Y,Y,Y,Y,Y,Y,Y,Y,Y,Y,Y,Y,Y,Y,Y,Y,Y,Y,Y,Y,Y,Y,Y,Y,Y,Y,Y,Y,U,U,U,U,U,U] rfl rfl (any_of HT_.out (by kernel_rfl)) (fun _ _ _ h => h) (Or.inr ⟨by rfl, rfl⟩) ?_ ?_
     rotate_left
     ·simp only [Act.put, sA, sZ, sS, i64_w, i32_w]
      rfl
     refine pure_ (i := 28) (N := some 44) (v := ?_) (a' := ?_) #[Y,Y,Y,Y,Y,Y,Y,Y,Y,Y,Y,Y,Y,Y,Y,Y,Y,Y,Y,Y,Y,Y,Y,Y,Y,Y,Y,Y,Y,U,U,U,U,U] rfl rfl (any_of HT_.out (by kernel_rfl)) (fun _ _ _ h => h) (Or.inl ⟨by rfl, ?_⟩) ?_ ?_
     rotate_left
     ·intro w'
      go_simp
      with_reducible rfl
     rotate_left
     ·simp only [Act.put, sA, sZ, sS, i64_w, i32_w]
      rfl
     refine pure_ (i := 29) (N := some 45) (v := ?_) (a' := ?_) #[Y,Y,Y,Y,Y,Y,Y,Y,Y,Y,Y,Y,Y,Y,Y,Y,Y,Y,Y,Y,Y,Y,Y,Y,Y,Y,Y,Y,Y,Y,U,U,U,U] rfl rfl (any_of HT_.out (by kernel_rfl)) (fun _ _ _ h => h) (Or.inl ⟨by rfl, ?_⟩) ?_ ?_
     rotate_left
     ·intro w'
      go_simp
      with_reducible rfl
     rotate_left
     ·simp only [Act.put, sA, sZ, sS, i64_w, i32_w]
      rfl
     refine pure_ (i := 30) (N := some 46) (v := undef) (a' := ?_) #[Y,Y,Y,Y,Y,Y,Y,Y,Y,Y,Y,Y,Y,Y,Y,Y,Y,Y,Y,Y,Y,Y,Y,Y,Y,Y,Y,Y,Y,Y,Y,U,U,U] rfl rfl (any_of HT_.out (by kernel_rfl)) (fun _ _ _ h => h) (Or.inr ⟨by rfl, rfl⟩) ?_ ?_
     rotate_left
     ·simp only [Act.put, sA, sZ, sS, i64_w, i32_w]
      rfl
     refine pure_ (i := 31) (N := some 47) (v := undef) (a' := ?_) #[Y,Y,Y,Y,Y,Y,Y,Y,Y,Y,Y,Y,Y,Y,Y,Y,Y,Y,Y,Y,Y,Y,Y,Y,Y,Y,Y,Y,Y,Y,Y,Y,U,U] rfl rfl (any_of HT_.out (by kernel_rfl)) (fun _ _ _ h => h) (Or.inr ⟨by rfl, rfl⟩) ?_ ?_
     rotate_left
     ·simp only [Act.put, sA, sZ, sS, i64_w, i32_w]
      rfl
     refine pure_ (i := 32) (N := some 48) (v := undef) (a' := ?_) #[Y,Y,Y,Y,Y,Y,Y,Y,Y,Y,Y,Y,Y,Y,Y,Y,Y,Y,Y,Y,Y,Y,Y,Y,Y,Y,Y,Y,Y,Y,Y,Y,Y,U] rfl rfl (any_of HT_.out (by kernel_rfl)) (fun _ _ _ h => h) (Or.inr ⟨by rfl, rfl⟩) ?_ ?_
     rotate_left
     ·simp only [Act.put, sA, sZ, sS, i64_w, i32_w]
      rfl
     refine pure_ (i := 33) (N := some 49) (v := ?_) (a' := ?_) #[Y,Y,Y,Y,Y,Y,Y,Y,Y,Y,Y,Y,Y,Y,Y,Y,Y,Y,Y,Y,Y,Y,Y,Y,Y,Y,Y,Y,Y,Y,Y,Y,Y,Y] rfl rfl (any_of HT_.out (by kernel_rfl)) (fun _ _ _ h => h) (Or.inl ⟨by rfl, ?_⟩) ?_ ?_
     rotate_left
     ·intro w'
      go_simp
      with_reducible rfl
     rotate_left
     ·simp only [Act.put, sA, sZ, sS, i64_w, i32_w]
      rfl
     refine done_ (done_of HT_.out (by kernel_rfl)) ?_
     try go_wp2
     go_meet
     case rel => (try rw [← Nbq11.out]); exact ⟨_, (true), (by first | rfl | (simp; done) | (simp [*]; done)), H', ⟨by have := HK1.out; first | omega | exact Nat.le_refl _⟩, ⟨by (with_reducible repeat (first | refine blk_drewN ?_ _ | refine blk_drew ?_ | refine blk_alloc ?_ _)); exact BK218.out⟩, ⟨by (with_reducible repeat (first | refine blk_drewN ?_ _ | refine blk_drew ?_ | refine blk_alloc ?_ _)); exact BK220.out⟩, ⟨by repeat (first | (with_reducible first | exact HB.out | apply below_alloc | apply pw_below_drewN | apply below_drew1 | refine below_set ?_ GE218.out | refine below_set ?_ GE220.out) | exact HB.out)⟩⟩
    subst c12
    have H1 : (if ((rd_T109 l0_1 x11_1).f2.f2) = a0_0 then (impl_Bridge_rootPort.j1 k1 x3_1 x11_1 l0_1 (l0_1.length : Int) x11_1 true a0_0 l0_1 ((rd_T109 l0_1 x11_1).f0) true ((rd_T109 l0_1 x11_1).f2.f0) ((rd_T109 l0_1 x11_1).f2.f1) ((rd_T109 l0_1 x11_1).f2.f2) ((rd_T109 l0_1 x11_1).f2.f3) ((rd_T109 l0_1 x11_1).f3) ((rd_T109 l0_1 x11_1).f4) ((rd_T109 l0_1 x11_1).f5) ((rd_T109 l0_1 x11_1).f6) ((rd_T109 l0_1 x11_1).f7)) else (if ((rd_T109 l0_1 x11_1).f2.f0) ≥ a0_0 then (impl_Bridge_rootPort.j1 k1 x3_1 x11_1 l0_1 (l0_1.length : Int) x11_1 true a0_0 l0_1 ((rd_T109 l0_1 x11_1).f0) true ((rd_T109 l0_1 x11_1).f2.f0) ((rd_T109 l0_1 x11_1).f2.f1) ((rd_T109 l0_1 x11_1).f2.f2) ((rd_T109 l0_1 x11_1).f2.f3) ((rd_T109 l0_1 x11_1).f3) ((rd_T109 l0_1 x11_1).f4) ((rd_T109 l0_1 x11_1).f5) ((rd_T109 l0_1 x11_1).f6) ((rd_T109 l0_1 x11_1).f7)) else (if ((rd_T109 l0_1 x11_1).f2.f1) ≥ 20 then (impl_Bridge_rootPort.j1 k1 x3_1 x11_1 l0_1 (l0_1.length : Int) x11_1 true a0_0 l0_1 ((rd_T109 l0_1 x11_1).f0) true ((rd_T109 l0_1 x11_1).f2.f0) ((rd_T109 l0_1 x11_1).f2.f1) ((rd_T109 l0_1 x11_1).f2.f2) ((rd_T109 l0_1 x11_1).f2.f3) ((rd_T109 l0_1 x11_1).f3) ((rd_T109 l0_1 x11_1).f4) ((rd_T109 l0_1 x11_1).f5) ((rd_T109 l0_1 x11_1).f6) ((rd_T109 l0_1 x11_1).f7)) else (impl_Bridge_rootPort.j1 k1 x3_1 x11_1 l0_1 (l0_1.length : Int) x11_1 (decide (((rd_T109 l0_1 x11_1).f3) ≥ 8)) a0_0 l0_1 ((rd_T109 l0_1 x11_1).f0) true ((rd_T109 l0_1 x11_1).f2.f0) ((rd_T109 l0_1 x11_1).f2.f1) ((rd_T109 l0_1 x11_1).f2.f2) ((rd_T109 l0_1 x11_1).f2.f3) ((rd_T109 l0_1 x11_1).f3) ((rd_T109 l0_1 x11_1).f4) ((rd_T109 l0_1 x11_1).f5) ((rd_T109 l0_1 x11_1).f6) ((rd_T109 l0_1 x11_1).f7))))) = some r := by rw [if_pos rfl] at H; exact H
    clear H
    have H := H1
    clear H1
    by_cases c13 : ((rd_T109 l0_1 x11_1).f2.f2) = a0_0
    case pos =>
     rw [if_pos c13] at H
     have c13b0 : (((rd_T109 l0_1 x11_1).f2.f2) == a0_0) = true := beq_iff_eq.mpr c13
     have c13b1 : (((rd_T109 l0_1 x11_1).f2.f2) != a0_0) = false := bne_eq_false_iff_eq.mpr c13
     clear c13
     have H' := aM H
     clear H
     try go_wp2
     have n0_ : Aside0 ((((((((((((w8.setCell ⟨gb220, 0, none⟩ (.bool ((rd_T109 l0_1 x11_1).f0))).setCell ⟨gb220, 1, none⟩ (.bool (true))).setCell ⟨gb220, 2, none⟩ (.int .i64 ((rd_T109 l0_1 x11_1).f2.f0))).setCell ⟨gb220, 3, none⟩ (.int .i64 ((rd_T109 l0_1 x11_1).f2.f1))).setCell ⟨gb220, 4, none⟩ (.int .i64 ((rd_T109 l0_1 x11_1).f2.f2))).setCell ⟨gb220, 5, none⟩ (.int .i64 ((rd_T109 l0_1 x11_1).f2.f3))).setCell ⟨gb220, 6, none⟩ (.int .i64 ((rd_T109 l0_1 x11_1).f3))).setCell ⟨gb220, 7, none⟩ (.int .i64 ((rd_T109 l0_1 x11_1).f4))).setCell ⟨gb220, 8, none⟩ (.int .i64 ((rd_T109 l0_1 x11_1).f5))).setCell ⟨gb220, 9, none⟩ (.int .i64 ((rd_T109 l0_1 x11_1).f6))).setCell ⟨gb220, 10, none⟩ (.bool ((rd_T109 l0_1 x11_1).f7))).heap[gb]? = some (.cells #[.int .i64 a0_0, .slice (some ad219) l0_1.length c0_1] 66 (0, 0))) := ⟨by (with_reducible repeat (first | refine blk_drewN ?_ _ | refine blk_drew ?_ | refine blk_alloc ?_ _)); refine blk_far ?_ NB218_220.out _; (with_reducible repeat (first | refine blk_drewN ?_ _ | refine blk_drew ?_ | refine blk_alloc ?_ _)); refine blk_far ?_ NB218_220.out _; (with_reducible repeat (first | refine blk_drewN ?_ _ | refine blk_drew ?_ | refine blk_alloc ?_ _)); refine blk_far ?_ NB218_220.out _; (with_reducible repeat (first | refine blk_drewN ?_ _ | refine blk_drew ?_ | refine blk_alloc ?_ _)); refine blk_far ?_ NB218_220.out _; (with_reducible repeat (first | refine blk_drewN ?_ _ | refine blk_drew ?_ | refine blk_alloc ?_ _)); refine blk_far ?_ NB218_220.out _; (with_reducible repeat (first | refine blk_drewN ?_ _ | refine blk_drew ?_ | refine blk_alloc ?_ _)); refine blk_far ?_ NB218_220.out _; (with_reducible repeat (first | refine blk_drewN ?_ _ | refine blk_drew ?_ | refine blk_alloc ?_ _)); refine blk_far ?_ NB218_220.out _; (with_reducible repeat (first | refine blk_drewN ?_ _ | refine blk_drew ?_ | refine blk_alloc ?_ _)); refine blk_far ?_ NB218_220.out _; (with_reducible repeat (first | refine blk_drewN ?_ _ | refine blk_drew ?_ | refine blk_alloc ?_ _)); refine blk_far ?_ NB218_220.out _; (with_reducible repeat (first | refine blk_drewN ?_ _ | refine blk_drew ?_ | refine blk_alloc ?_ _)); refine blk_far ?_ NB218_220.out _; (with_reducible repeat (first | refine blk_drewN ?_ _ | refine blk_drew ?_ | refine blk_alloc ?_ _)); refine blk_far ?_ NB218_220.out _; (with_reducible repeat (first | refine blk_drewN ?_ _ | refine blk_drew ?_ | refine blk_alloc ?_ _)); exact BK218.out⟩
     have n1_ : Aside0 ((((((((((((w8.setCell ⟨gb220, 0, none⟩ (.bool ((rd_T109 l0_1 x11_1).f0))).setCell ⟨gb220, 1, none⟩ (.bool (true))).setCell ⟨gb220, 2, none⟩ (.int .i64 ((rd_T109 l0_1 x11_1).f2.f0))).setCell ⟨gb220, 3, none⟩ (.int .i64 ((rd_T109 l0_1 x11_1).f2.f1))).setCell ⟨gb220, 4, none⟩ (.int .i64 ((rd_T109 l0_1 x11_1).f2.f2))).setCell ⟨gb220, 5, none⟩ (.int .i64 ((rd_T109 l0_1 x11_1).f2.f3))).setCell ⟨gb220, 6, none⟩ (.int .i64 ((rd_T109 l0_1 x11_1).f3))).setCell ⟨gb220, 7, none⟩ (.int .i64 ((rd_T109 l0_1 x11_1).f4))).setCell ⟨gb220, 8, none⟩ (.int .i64 ((rd_T109 l0_1 x11_1).f5))).setCell ⟨gb220, 9, none⟩ (.int .i64 ((rd_T109 l0_1 x11_1).f6))).setCell ⟨gb220, 10, none⟩ (.bool ((rd_T109 l0_1 x11_1).f7))).heap[gb220]? = some (.cells #[.bool ((rd_T109 l0_1 x11_1).f0), .bool true, .int .i64 ((rd_T109 l0_1 x11_1).f2.f0), .int .i64 ((rd_T109 l0_1 x11_1).f2.f1), .int .i64 ((rd_T109 l0_1 x11_1).f2.f2), .int .i64 ((rd_T109 l0_1 x11_1).f2.f3), .int .i64 ((rd_T109 l0_1 x11_1).f3), .int .i64 ((rd_T109 l0_1 x11_1).f4), .int .i64 ((rd_T109 l0_1 x11_1).f5), .int .i64 ((rd_T109 l0_1 x11_1).f6), .bool ((rd_T109 l0_1 x11_1).f7)] 109 (0, 0))) := ⟨by (with_reducible repeat (first | refine blk_drewN ?_ _ | refine blk_drew ?_ | refine blk_alloc ?_ _)); refine blk_put (cs := #[.bool ((rd_T109 l0_1 x11_1).f0), .bool (true), .int .i64 ((rd_T109 l0_1 x11_1).f2.f0), .int .i64 ((rd_T109 l0_1 x11_1).f2.f1), .int .i64 ((rd_T109 l0_1 x11_1).f2.f2), .int .i64 ((rd_T109 l0_1 x11_1).f2.f3), .int .i64 ((rd_T109 l0_1 x11_1).f3), .int .i64 ((rd_T109 l0_1 x11_1).f4), .int .i64 ((rd_T109 l0_1 x11_1).f5), .int .i64 ((rd_T109 l0_1 x11_1).f6), .bool false]) ?_ 10 _ rfl; (with_reducible repeat (first | refine blk_drewN ?_ _ | refine blk_drew ?_ | refine blk_alloc ?_ _)); refine blk_put (cs := #[.bool ((rd_T109 l0_1 x11_1).f0), .bool (true), .int .i64 ((rd_T109 l0_1 x11_1).f2.f0), .int .i64 ((rd_T109 l0_1 x11_1).f2.f1), .int .i64 ((rd_T109 l0_1 x11_1).f2.f2), .int .i64 ((rd_T109 l0_1 x11_1).f2.f3), .int .i64 ((rd_T109 l0_1 x11_1).f3), .int .i64 ((rd_T109 l0_1 x11_1).f4), .int .i64 ((rd_T109 l0_1 x11_1).f5), .int .i64 0, .bool false]) ?_ 9 _ rfl; (with_reducible repeat (first | refine blk_drewN ?_ _ | refine blk_drew ?_ | refine blk_alloc ?_ _)); refine blk_put (cs := #[.bool ((rd_T109 l0_1 x11_1).f0), .bool (true), .int .i64 ((rd_T109 l0_1 x11_1).f2.f0), .int .i64 ((rd_T109 l0_1 x11_1).f2.f1), .int .i64 ((rd_T109 l0_1 x11_1).f2.f2), .int .i64 ((rd_T109 l0_1 x11_1).f2.f3), .int .i64 ((rd_T109 l0_1 x11_1).f3), .int .i64 ((rd_T109 l0_1 x11_1).f4), .int .i64 0, .int .i64 0, .bool false]) ?_ 8 _ rfl; (with_reducible repeat (first | refine blk_drewN ?_ _ | refine blk_drew ?_ | refine blk_alloc ?_ _)); refine blk_put (cs := #[.bool ((rd_T109 l0_1 x11_1).f0), .bool (true), .int .i64 ((rd_T109 l0_1 x11_1).f2.f0), .int .i64 ((rd_T109 l0_1 x11_1).f2.f1), .int .i64 ((rd_T109 l0_1 x11_1).f2.f2), .int .i64 ((rd_T109 l0_1 x11_1).f2.f3), .int .i64 ((rd_T109 l0_1 x11_1).f3), .int .i64 0, .int .i64 0, .int .i64 0, .bool false]) ?_ 7 _ rfl; (with_reducible repeat (first | refine blk_drewN ?_ _ | refine blk_drew ?_ | refine blk_alloc ?_ _)); refine blk_put (cs := #[.bool ((rd_T109 l0_1 x11_1).f0), .bool (true), .int .i64 ((rd_T109 l0_1 x11_1).f2.f0), .int .i64 ((rd_T109 l0_1 x11_1).f2.f1), .int .i64 ((rd_T109 l0_1 x11_1).f2.f2), .int .i64 ((rd_T109 l0_1 x11_1).f2.f3), .int .i64 0, .int .i64 0, .int .i64 0, .int .i64 0, .bool false]) ?_ 6 _ rfl; (with_reducible repeat (first | refine blk_drewN ?_ _ | refine blk_drew ?_ | refine blk_alloc ?_ _)); refine blk_put (cs := #[.bool ((rd_T109 l0_1 x11_1).f0), .bool (true), .int .i64 ((rd_T109 l0_1 x11_1).f2.f0), .int .i64 ((rd_T109 l0_1 x11_1).f2.f1), .int .i64 ((rd_T109 l0_1 x11_1).f2.f2), .int .i64 0, .int .i64 0, .int .i64 0, .int .i64 0, .int .i64 0, .bool false]) ?_ 5 _ rfl; (with_reducible repeat (first | refine blk_drewN ?_ _ | refine blk_drew ?_ | refine blk_alloc ?_ _)); refine blk_put (cs := #[.bool ((rd_T109 l0_1 x11_1).f0), .bool (true), .int .i64 ((rd_T109 l0_1 x11_1).f2.f0), .int .i64 ((rd_T109 l0_1 x11_1).f2.f1), .int .i64 0, .int .i64 0, .int .i64 0, .int .i64 0, .int .i64 0, .int .i64 0, .bool false]) ?_ 4 _ rfl; (with_reducible repeat (first | refine blk_drewN ?_ _ | refine blk_drew ?_ | refine blk_alloc ?_ _)); refine blk_put (cs := #[.bool ((rd_T109 l0_1 x11_1).f0), .bool (true), .int .i64 ((rd_T109 l0_1 x11_1).f2.f0), .int .i64 0, .int .i64 0, .int .i64 0, .int .i64 0, .int .i64 0, .int .i64 0, .int .i64 0, .bool false]) ?_ 3 _ rfl; (with_reducible repeat (first | refine blk_drewN ?_ _ | refine blk_drew ?_ | refine blk_alloc ?_ _)); refine blk_put (cs := #[.bool ((rd_T109 l0_1 x11_1).f0), .bool (true), .int .i64 0, .int .i64 0, .int .i64 0, .int .i64 0, .int .i64 0, .int .i64 0, .int .i64 0, .int .i64 0, .bool false]) ?_ 2 _ rfl; (with_reducible repeat (first | refine blk_drewN ?_ _ | refine blk_drew ?_ | refine blk_alloc ?_ _)); refine blk_put (cs := #[.bool ((rd_T109 l0_1 x11_1).f0), .bool false, .int .i64 0, .int .i64 0, .int .i64 0, .int .i64 0, .int .i64 0, .int .i64 0, .int .i64 0, .int .i64 0, .bool false]) ?_ 1 _ rfl; (with_reducible repeat (first | refine blk_drewN ?_ _ | refine blk_drew ?_ | refine blk_alloc ?_ _)); refine blk_put (cs := #[.bool false, .bool false, .int .i64 0, .int .i64 0, .int .i64 0, .int .i64 0, .int .i64 0, .int .i64 0, .int .i64 0, .int .i64 0, .bool false]) ?_ 0 _ rfl; (with_reducible repeat (first | refine blk_drewN ?_ _ | refine blk_drew ?_ | refine blk_alloc ?_ _)); exact BK220.out⟩
     have n2_ : Aside0 (Below w.heap.size w (((((((((((w8.setCell ⟨gb220, 0, none⟩ (.bool ((rd_T109 l0_1 x11_1).f0))).setCell ⟨gb220, 1, none⟩ (.bool (true))).setCell ⟨gb220, 2, none⟩ (.int .i64 ((rd_T109 l0_1 x11_1).f2.f0))).setCell ⟨gb220, 3, none⟩ (.int .i64 ((rd_T109 l0_1 x11_1).f2.f1))).setCell ⟨gb220, 4, none⟩ (.int .i64 ((rd_T109 l0_1 x11_1).f2.f2))).setCell ⟨gb220, 5, none⟩ (.int .i64 ((rd_T109 l0_1 x11_1).f2.f3))).setCell ⟨gb220, 6, none⟩ (.int .i64 ((rd_T109 l0_1 x11_1).f3))).setCell ⟨gb220, 7, none⟩ (.int .i64 ((rd_T109 l0_1 x11_1).f4))).setCell ⟨gb220, 8, none⟩ (.int .i64 ((rd_T109 l0_1 x11_1).f5))).setCell ⟨gb220, 9, none⟩ (.int .i64 ((rd_T109 l0_1 x11_1).f6))).setCell ⟨gb220, 10, none⟩ (.bool ((rd_T109 l0_1 x11_1).f7)))) := ⟨by repeat (first | (with_reducible first | exact HB.out | apply below_alloc | apply pw_below_drewN | apply below_drew1 | refine below_set ?_ GE218.out | refine below_set ?_ GE220.out) | exact HB.out)⟩
     (try clear BK218)
     (try clear BK220)
     (try clear HB)
     generalize (((((((((((w8.setCell ⟨gb220, 0, none⟩ (.bool ((rd_T109 l0_1 x11_1).f0))).setCell ⟨gb220, 1, none⟩ (.bool (true))).setCell ⟨gb220, 2, none⟩ (.int .i64 ((rd_T109 l0_1 x11_1).f2.f0))).setCell ⟨gb220, 3, none⟩ (.int .i64 ((rd_T109 l0_1 x11_1).f2.f1))).setCell ⟨gb220, 4, none⟩ (.int .i64 ((rd_T109 l0_1 x11_1).f2.f2))).setCell ⟨gb220, 5, none⟩ (.int .i64 ((rd_T109 l0_1 x11_1).f2.f3))).setCell ⟨gb220, 6, none⟩ (.int .i64 ((rd_T109 l0_1 x11_1).f3))).setCell ⟨gb220, 7, none⟩ (.int .i64 ((rd_T109 l0_1 x11_1).f4))).setCell ⟨gb220, 8, none⟩ (.int .i64 ((rd_T109 l0_1 x11_1).f5))).setCell ⟨gb220, 9, none⟩ (.int .i64 ((rd_T109 l0_1 x11_1).f6))).setCell ⟨gb220, 10, none⟩ (.bool ((rd_T109 l0_1 x11_1).f7))) = w14 at n0_ n1_ n2_ ⊢
     have BK218 := n0_
     have BK220 := n1_
     have HB := n2_
     clear n0_ n1_ n2_
     have n0_ := aM (blk_drew BK218.out)
     have n1_ := aM (blk_drew BK220.out)
     have n2_ := aM (below_drew1 HB.out)
     clear BK218
     clear BK220
     clear HB
     have BK218 := n0_
     have BK220 := n1_
     have HB := n2_
     clear n0_ n1_ n2_
     refine start_ (n := 34) (S := fun w' => w'.cell? ⟨gb220, 0, none⟩ = some (.bool ((rd_T109 l0_1 x11_1).f0)) ∧ w'.cell? ⟨gb220, 1, none⟩ = some (.bool true) ∧ w'.cell? ⟨gb220, 2, none⟩ = some (.int .i64 ((rd_T109 l0_1 x11_1).f2.f0)) ∧ w'.cell? ⟨gb220, 3, none⟩ = some (.int .i64 ((rd_T109 l0_1 x11_1).f2.f1)) ∧ w'.cell? ⟨gb220, 4, none⟩ = some (.int .i64 ((rd_T109 l0_1 x11_1).f2.f2)) ∧ w'.cell? ⟨gb220, 5, none⟩ = some (.int .i64 ((rd_T109 l0_1 x11_1).f2.f3)) ∧ w'.cell? ⟨gb220, 6, none⟩ = some (.int .i64 ((rd_T109 l0_1 x11_1).f3)) ∧ w'.cell? ⟨gb220, 7, none⟩ = some (.int .i64 ((rd_T109 l0_1 x11_1).f4)) ∧ w'.cell? ⟨gb220, 8, none⟩ = some (.int .i64 ((rd_T109 l0_1 x11_1).f5)) ∧ w'.cell? ⟨gb220, 9, none⟩ = some (.int .i64 ((rd_T109 l0_1 x11_1).f6)) ∧ w'.cell? ⟨gb220, 10, none⟩ = some (.bool ((rd_T109 l0_1 x11_1).f7)) ∧ w'.cell? ⟨gb, 0, none⟩ = some (.int .i64 a0_0) ∧ w'.cell? ⟨gb, 1, none⟩ = some (.slice (some ad219) l0_1.length c0_1)) (ds := []) #[U,U,U,U,U,U,U,U,U,U,U,U,U,U,U,U,U,U,U,U,U,U,U,U,U,U,U,U,U,U,U,U,U,U] (by kernel_rfl) rfl rfl ⟨(blk_cell BK220.out 0).trans rfl, (blk_cell BK220.out 1).trans rfl, (blk_cell BK220.out 2).trans rfl, (blk_cell BK220.out 3).trans rfl, (blk_cell BK220.out 4).trans rfl, (blk_cell BK220.out 5).trans rfl, (blk_cell BK220.out 6).trans rfl, (blk_cell BK220.out 7).trans rfl, (blk_cell BK220.out 8).trans rfl, (blk_cell BK220.out 9).trans rfl, (blk_cell BK220.out 10).trans rfl, (blk_cell BK218.out 0).trans rfl, (blk_cell BK218.out 1).trans rfl⟩ (fun hHeld => ?_); refine with_tabW impl_Bridge_rootPort.tab5 impl_Bridge_rootPort.bits5 (fun HT_ HW_ => ?_)
     generalize w14.drew = w15 at BK218 BK220 HB hHeld ⊢
     refine pure_ (i := 0) (N := some 16) (v := ?_) (a' := ?_) #[Y,U,U,U,U,U,U,U,U,U,U,U,U,U,U,U,U,U,U,U,U,U,U,U,U,U,U,U,U,U,U,U,U,U] rfl rfl (any_of HT_.out (by kernel_rfl)) (fun _ _ _ h => h) (Or.inl ⟨by rfl, ?_⟩) ?_ ?_
     rotate_left
     ·intro w'
      go_simp
      with_reducible rfl
     rotate_left
     ·simp only [Act.put, sA, sZ, sS, i64_w, i32_w]
      rfl
     refine take_ (i := 1) (N := some 17) (v := ?_) (a' := ?_) #[Y,Y,U,U,U,U,U,U,U,U,U,U,U,U,U,U,U,U,U,U,U,U,U,U,U,U,U,U,U,U,U,U,U,U] rfl rfl (take_ofW HT_.out HW_.out (by kernel_rfl)) (fun _ _ _ h => h) (Or.inl ⟨by rfl, ?_⟩) hHeld ?_ ?_
     rotate_left
     ·rintro w' ⟨s0, s1, s2, s3, s4, s5, s6, s7, s8, s9, s10, s11, s12⟩
      go_simp
      with_reducible rfl
     rotate_left
     ·simp only [Act.put, sA, sZ, sS, i64_w, i32_w]
      rfl
     refine pure_ (i := 2) (N := some 18) (v := ?_) (a' := ?_) #[Y,Y,Y,U,U,U,U,U,U,U,U,U,U,U,U,U,U,U,U,U,U,U,U,U,U,U,U,U,U,U,U,U,U,U] rfl rfl (any_of HT_.out (by kernel_rfl)) (fun _ _ _ h => h) (Or.inl ⟨by rfl, ?_⟩) ?_ ?_
     rotate_left
     ·intro w'
      go_simp
      with_reducible rfl
     rotate_left
     ·simp only [Act.put, sA, sZ, sS, i64_w, i32_w]
      rfl
     refine pure_ (i := 3) (N := some 19) (v := ?_) (a' := ?_) #[Y,Y,Y,Y,U,U,U,U,U,U,U,U,U,U,U,U,U,U,U,U,U,U,U,U,U,U,U,U,U,U,U,U,U,U] rfl rfl (any_of HT_.out (by kernel_rfl)) (fun _ _ _ h => h) (Or.inl ⟨by rfl, ?_⟩) ?_ ?_
     rotate_left
     ·intro w'
      go_simp
      with_reducible rfl
     rotate_left
     ·simp only [Act.put, sA, sZ, sS, i64_w, i32_w]
      rfl
     refine pure_ (i := 4) (N := some 20) (v := ?_) (a' := ?_) #[Y,Y,Y,Y,Y,U,U,U,U,U,U,U,U,U,U,U,U,U,U,U,U,U,U,U,U,U,U,U,U,U,U,U,U,U] rfl rfl (any_of HT_.out (by kernel_rfl)) (fun _ _ _ h => h) (Or.inl ⟨by rfl, ?_⟩) ?_ ?_
     rotate_left
     ·intro w'
      go_simp
      with_reducible rfl
     rotate_left
     ·simp only [Act.put, sA, sZ, sS, i64_w, i32_w]
      rfl
     refine pure_ (i := 5) (N := some 21) (v := ?_) (a' := ?_) #[Y,Y,Y,Y,Y,Y,U,U,U,U,U,U,U,U,U,U,U,U,U,U,U,U,U,U,U,U,U,U,U,U,U,U,U,U] rfl rfl (any_of HT_.out (by kernel_rfl)) (fun _ _ _ h => h) (Or.inl ⟨by rfl, ?_⟩) ?_ ?_
     rotate_left
     ·intro w'
      go_simp
      with_reducible rfl
     rotate_left
     ·simp only [Act.put, sA, sZ, sS, i64_w, i32_w]
      rfl
     refine pure_ (i := 7) (N := some 23) (v := ?_) (a' := ?_) #[Y,Y,Y,Y,Y,Y,U,Y,U,U,U,U,U,U,U,U,U,U,U,U,U,U,U,U,U,U,U,U,U,U,U,U,U,U] rfl rfl (any_of HT_.out (by kernel_rfl)) (fun _ _ _ h => h) (Or.inl ⟨by rfl, ?_⟩) ?_ ?_
     rotate_left
     ·intro w'
      go_simp
      with_reducible rfl
     rotate_left
     ·simp only [Act.put, sA, sZ, sS, i64_w, i32_w]
      rfl
     refine pure_ (i := 8) (N := some 24) (v := ?_) (a' := ?_) #[Y,Y,Y,Y,Y,Y,U,Y,Y,U,U,U,U,U,U,U,U,U,U,U,U,U,U,U,U,U,U,U,U,U,U,U,U,U] rfl rfl (any_of HT_.out (by kernel_rfl)) (fun _ _ _ h => h) (Or.inl ⟨by rfl, ?_⟩) ?_ ?_
     rotate_left
     ·intro w'
      go_simp
      with_reducible rfl
     rotate_left
     ·simp only [Act.put, sA, sZ, sS, i64_w, i32_w]
      rfl
     refine pure_ (i := 9) (N := some 25) (v := ?_) (a' := ?_) #[Y,Y,Y,Y,Y,Y,U,Y,Y,Y,U,U,U,U,U,U,U,U,U,U,U,U,U,U,U,U,U,U,U,U,U,U,U,U] rfl rfl (any_of HT_.out (by kernel_rfl)) (fun _ _ _ h => h) (Or.inl ⟨by rfl, ?_⟩) ?_ ?_
     rotate_left
     ·intro w'
      go_simp
      with_reducible rfl
     rotate_left
     ·simp only [Act.put, sA, sZ, sS, i64_w, i32_w]
      rfl
     refine take_ (i := 6) (N := some 22) (v := ?_) (a' := ?_) #[Y,Y,Y,Y,Y,Y,Y,Y,Y,Y,U,U,U,U,U,U,U,U,U,U,U,U,U,U,U,U,U,U,U,U,U,U,U,U] rfl rfl (take_ofW HT_.out HW_.out (by kernel_rfl)) (fun _ _ _ h => h) (Or.inl ⟨by rfl, ?_⟩) hHeld ?_ ?_
     rotate_left
     ·rintro w' ⟨s0, s1, s2, s3, s4, s5, s6, s7, s8, s9, s10, s11, s12⟩
      go_simp
      with_reducible rfl
     rotate_left
     ·simp only [Act.put, sA, sZ, sS, i64_w, i32_w]
      rfl
     refine take_ (i := 10) (N := some 26) (v := ?_) (a' := ?_) #[Y,Y,Y,Y,Y,Y,Y,Y,Y,Y,Y,U,U,U,U,U,U,U,U,U,U,U,U,U,U,U,U,U,U,U,U,U,U,U] rfl rfl (take_ofW HT_.out HW_.out (by kernel_rfl)) (fun _ _ _ h => h) (Or.inl ⟨by rfl, ?_⟩) hHeld ?_ ?_
     rotate_left
     ·rintro w' ⟨s0, s1, s2, s3, s4, s5, s6, s7, s8, s9, s10, s11, s12⟩
      go_simp
      with_reducible rfl
     rotate_left
     ·simp only [Act.put, sA, sZ, sS, i64_w, i32_w]
      rfl
     refine pure_ (i := 11) (N := some 27) (v := ?_) (a' := ?_) #[Y,Y,Y,Y,Y,Y,Y,Y,Y,Y,Y,Y,U,U,U,U,U,U,U,U,U,U,U,U,U,U,U,U,U,U,U,U,U,U] rfl rfl (any_of HT_.out (by kernel_rfl)) (fun _ _ _ h => h) (Or.inl ⟨by rfl, ?_⟩) ?_ ?_
     rotate_left
     ·intro w'
      go_simp
      with_reducible rfl
     rotate_left
     ·simp only [Act.put, sA, sZ, sS, i64_w, i32_w]
      rfl
     refine pure_ (i := 12) (N := some 28) (v := ?_) (a' := ?_) #[Y,Y,Y,Y,Y,Y,Y,Y,Y,Y,Y,Y,Y,U,U,U,U,U,U,U,U,U,U,U,U,U,U,U,U,U,U,U,U,U] rfl rfl (any_of HT_.out (by kernel_rfl)) (fun _ _ _ h => h) (Or.inl ⟨by rfl, ?_⟩) ?_ ?_
     rotate_left
     ·intro w'
      go_simp
      with_reducible rfl
     rotate_left
     ·simp only [Act.put, sA, sZ, sS, i64_w, i32_w]
      rfl
     refine pure_ (i := 13) (N := some 29) (v := ?_) (a' := ?_) #[Y,Y,Y,Y,Y,Y,Y,Y,Y,Y,Y,Y,Y,Y,U,U,U,U,U,U,U,U,U,U,U,U,U,U,U,U,U,U,U,U] rfl rfl (any_of HT_.out (by kernel_rfl)) (fun _ _ _ h => h) (Or.inl ⟨by rfl, ?_⟩) ?_ ?_
     rotate_left
     ·intro w'
      go_simp
      with_reducible rfl
     rotate_left
     ·simp only [Act.put, sA, sZ, sS, i64_w, i32_w]
      rfl
     refine pure_ (i := 14) (N := some 30) (v := undef) (a' := ?_) #[Y,Y,Y,Y,Y,Y,Y,Y,Y,Y,Y,Y,Y,Y,Y,U,U,U,U,U,U,U,U,U,U,U,U,U,U,U,U,U,U,U] rfl rfl (any_of HT_.out (by kernel_rfl)) (fun _ _ _ h => h) (Or.inr ⟨by rfl, rfl⟩) ?_ ?_
     rotate_left
     ·simp only [Act.put, sA, sZ, sS, i64_w, i32_w]
      rfl
     refine pure_ (i := 15) (N := some 31) (v := undef) (a' := ?_) #[Y,Y,Y,Y,Y,Y,Y,Y,Y,Y,Y,Y,Y,Y,Y,Y,U,U,U,U,U,U,U,U,U,U,U,U,U,U,U,U,U,U] rfl rfl (any_of HT_.out (by kernel_rfl)) (fun _ _ _ h => h) (Or.inr ⟨by rfl, rfl⟩) ?_ ?_
     rotate_left
     ·simp only [Act.put, sA, sZ, sS, i64_w, i32_w]
      rfl
     refine pure_ (i := 16) (N := some 32) (v := undef) (a' := ?_) #[Y,Y,Y,Y,Y,Y,Y,Y,Y,Y,Y,Y,Y,Y,Y,Y,Y,U,U,U,U,U,U,U,U,U,U,U,U,U,U,U,U,U] rfl rfl (any_of HT_.out (by kernel_rfl)) (fun _ _ _ h => h) (Or.inr ⟨by rfl, rfl⟩) ?_ ?_
     rotate_left
     ·simp only [Act.put, sA, sZ, sS, i64_w, i32_w]
      rfl
     refine pure_ (i := 17) (N := some 33) (v := undef) (a' := ?_) #[Y,Y,Y,Y,Y,Y,Y,Y,Y,Y,Y,Y,Y,Y,Y,Y,Y,Y,U,U,U,U,U,U,U,U,U,U,U,U,U,U,U,U] rfl rfl (any_of HT_.out (by kernel_rfl)) (fun _ _ _ h => h) (Or.inr ⟨by rfl, rfl⟩) ?_ ?_
     rotate_left
     ·simp only [Act.put, sA, sZ, sS, i64_w, i32_w]
      rfl
     refine pure_ (i := 18) (N := some 34) (v := undef) (a' := ?_) #[Y,Y,Y,Y,Y,Y,Y,Y,Y,Y,Y,Y,Y,Y,Y,Y,Y,Y,Y,U,U,U,U,U,U,U,U,U,U,U,U,U,U,U] rfl rfl (any_of HT_.out (by kernel_rfl)) (fun _ _ _ h => h) (Or.inr ⟨by rfl, rfl⟩) ?_ ?_
     rotate_left
     ·simp only [Act.put, sA, sZ, sS, i64_w, i32_w]
      rfl
     refine pure_ (i := 19) (N := some 35) (v := undef) (a' := ?_) #[Y,Y,Y,Y,Y,Y,Y,Y,Y,Y,Y,Y,Y,Y,Y,Y,Y,Y,Y,Y,U,U,U,U,U,U,U,U,U,U,U,U,U,U] rfl rfl (any_of HT_.out (by kernel_rfl)) (fun _ _ _ h => h) (Or.inr ⟨by rfl, rfl⟩) ?_ ?_
     rotate_left
     ·simp only [Act.put, sA, sZ, sS, i64_w, i32_w]
      rfl
     refine pure_ (i := 20) (N := some 36) (v := undef) (a' := ?_) #[Y,Y,Y,Y,Y,Y,Y,Y,Y,Y,Y,Y,Y,Y,Y,Y,Y,Y,Y,Y,Y,U,U,U,U,U,U,U,U,U,U,U,U,U] rfl rfl (any_of HT_.out (by kernel_rfl)) (fun _ _ _ h => h) (Or.inr ⟨by rfl, rfl⟩) ?_ ?_
     rotate_left
     ·simp only [Act.put, sA, sZ, sS, i64_w, i32_w]
      rfl
     refine pure_ (i := 21) (N := some 37) (v := undef) (a' := ?_) #[Y,Y,Y,Y,Y,Y,Y,Y,Y,Y,Y,Y,Y,Y,Y,Y,Y,Y,Y,Y,Y,Y,U,U,U,U,U,U,U,U,U,U,U,U] rfl rfl (any_of HT_.out (by kernel_rfl)) (fun _ _ _ h => h) (Or.inr ⟨by rfl, rfl⟩) ?_ ?_
     rotate_left
     ·simp only [Act.put, sA, sZ, sS, i64_w, i32_w]
      rfl
     refine pure_ (i := 22) (N := some 38) (v := ?_) (a' := ?_) #[Y,Y,Y,Y,Y,Y,Y,Y,Y,Y,Y,Y,Y,Y,Y,Y,Y,Y,Y,Y,Y,Y,Y,U,U,U,U,U,U,U,U,U,U,U] rfl rfl (any_of HT_.out (by kernel_rfl)) (fun _ _ _ h => h) (Or.inl ⟨by rfl, ?_⟩) ?_ ?_
     rotate_left
     ·intro w'
      go_simp
      with_reducible rfl
     rotate_left
     ·simp only [Act.put, sA, sZ, sS, i64_w, i32_w]
      rfl
     refine pure_ (i := 23) (N := some 39) (v := ?_) (a' := ?_) #[Y,Y,Y,Y,Y,Y,Y,Y,Y,Y,Y,Y,Y,Y,Y,Y,Y,Y,Y,Y,Y,Y,Y,Y,U,U,U,U,U,U,U,U,U,U] rfl rfl (any_of HT_.out (by kernel_rfl)) (fun _ _ _ h => h) (Or.inl ⟨by rfl, ?_⟩) ?_ ?_
     rotate_left
     ·intro w'
      go_simp
      with_reducible rfl
     rotate_left
     ·simp only [Act.put, sA, sZ, sS, i64_w, i32_w]
      rfl
     refine pure_ (i := 24) (N := some 40) (v := undef) (a' := ?_) #[Y,Y,Y,Y,Y,Y,Y,Y,Y,Y,Y,Y,Y,Y,Y,Y,Y,Y,Y,Y,Y,Y,Y,Y,Y,U,U,U,U,U,U,U,U,U] rfl rfl (any_of HT_.out (by kernel_rfl)) (fun _ _ _ h => h) (Or.inr ⟨by rfl, rfl⟩) ?_ ?_
     rotate_left
     ·simp only [Act.put, sA, sZ, sS, i64_w, i32_w]
      rfl
     refine pure_ (i := 25) (N := some 41) (v := undef) (a' := ?_) #[Y,Y,Y,Y,Y,Y,Y,Y,Y,Y,Y,Y,Y,Y,Y,Y,Y,Y,Y,Y,Y,Y,Y,Y,Y,Y,U,U,U,U,U,U,U,U] rfl rfl (any_of HT_.out (by kernel_rfl)) (fun _ _ _ h => h) (Or.inr ⟨by rfl, rfl⟩) ?_ ?_
     rotate_left
     ·simp only [Act.put, sA, sZ, sS, i64_w, i32_w]
      rfl
     refine pure_ (i := 26) (N := some 42) (v := undef) (a' := ?_) #[Y,Y,Y,Y,Y,Y,Y,Y,Y,Y,Y,Y,Y,Y,Y,Y,Y,Y,Y,Y,Y,Y,Y,Y,Y,Y,Y,U,U,U,U,U,U,U] rfl rfl (any_of HT_.out (by kernel_rfl)) (fun _ _ _ h => h) (Or.inr ⟨by rfl, rfl⟩) ?_ ?_
     rotate_left
     ·simp only [Act.put, sA, sZ, sS, i64_w, i32_w]
      rfl
     refine pure_ (i := 27) (N := some 43) (v := undef) (a' := ?_) #[Y,Y,Y,Y,Y,Y,Y,Y,Y,Y,Y,Y,Y,Y,Y,Y,Y,Y,Y,Y,Y,Y,Y,Y,Y,Y,Y,Y,U,U,U,U,U,U] rfl rfl (any_of HT_.out (by kernel_rfl)) (fun _ _ _ h => h) (Or.inr ⟨by rfl, rfl⟩) ?_ ?_
     rotate_left
     ·simp only [Act.put, sA, sZ, sS, i64_w, i32_w]
      rfl
     refine pure_ (i := 28) (N := some 44) (v := ?_) (a' := ?_) #[Y,Y,Y,Y,Y,Y,Y,Y,Y,Y,Y,Y,Y,Y,Y,Y,Y,Y,Y,Y,Y,Y,Y,Y,Y,Y,Y,Y,Y,U,U,U,U,U] rfl rfl (any_of HT_.out (by kernel_rfl)) (fun _ _ _ h => h) (Or.inl ⟨by rfl, ?_⟩) ?_ ?_
     rotate_left
     ·intro w'
      go_simp
      with_reducible rfl
     rotate_left
     ·simp only [Act.put, sA, sZ, sS, i64_w, i32_w]
      rfl
     refine pure_ (i := 29) (N := some 45) (v := ?_) (a' := ?_) #[Y,Y,Y,Y,Y,Y,Y,Y,Y,Y,Y,Y,Y,Y,Y,Y,Y,Y,Y,Y,Y,Y,Y,Y,Y,Y,Y,Y,Y,Y,U,U,U,U] rfl rfl (any_of HT_.out (by kernel_rfl)) (fun _ _ _ h => h) (Or.inl ⟨by rfl, ?_⟩) ?_ ?_
     rotate_left
     ·intro w'
      go_simp
      with_reducible rfl
     rotate_left
     ·simp only [Act.put, sA, sZ, sS, i64_w, i32_w]
      rfl
     refine pure_ (i := 30) (N := some 46) (v := undef) (a' := ?_) #[Y,Y,Y,Y,Y,Y,Y,Y,Y,Y,Y,Y,Y,Y,Y,Y,Y,Y,Y,Y,Y,Y,Y,Y,Y,Y,Y,Y,Y,Y,Y,U,U,U] rfl rfl (any_of HT_.out (by kernel_rfl)) (fun _ _ _ h => h) (Or.inr ⟨by rfl, rfl⟩) ?_ ?_
     rotate_left
     ·simp only [Act.put, sA, sZ, sS, i64_w, i32_w]
      rfl
     refine pure_ (i := 31) (N := some 47) (v := undef) (a' := ?_) #[Y,Y,Y,Y,Y,Y,Y,Y,Y,Y,Y,Y,Y,Y,Y,Y,Y,Y,Y,Y,Y,Y,Y,Y,Y,Y,Y,Y,Y,Y,Y,Y,U,U] rfl rfl (any_of HT_.out (by kernel_rfl)) (fun _ _ _ h => h) (Or.inr ⟨by rfl, rfl⟩) ?_ ?_
     rotate_left
     ·simp only [Act.put, sA, sZ, sS, i64_w, i32_w]
      rfl
     refine pure_ (i := 32) (N := some 48) (v := undef) (a' := ?_) #[Y,Y,Y,Y,Y,Y,Y,Y,Y,Y,Y,Y,Y,Y,Y,Y,Y,Y,Y,Y,Y,Y,Y,Y,Y,Y,Y,Y,Y,Y,Y,Y,Y,U] rfl rfl (any_of HT_.out (by kernel_rfl)) (fun _ _ _ h => h) (Or.inr ⟨by rfl, rfl⟩) ?_ ?_
     rotate_left
     ·simp only [Act.put, sA, sZ, sS, i64_w, i32_w]
      rfl
     refine pure_ (i := 33) (N := some 49) (v := ?_) (a' := ?_) #[Y,Y,Y,Y,Y,Y,Y,Y,Y,Y,Y,Y,Y,Y,Y,Y,Y,Y,Y,Y,Y,Y,Y,Y,Y,Y,Y,Y,Y,Y,Y,Y,Y,Y] rfl rfl (any_of HT_.out (by kernel_rfl)) (fun _ _ _ h => h) (Or.inl ⟨by rfl, ?_⟩) ?_ ?_
     rotate_left
     ·intro w'
      go_simp
      with_reducible rfl
     rotate_left
     ·simp only [Act.put, sA, sZ, sS, i64_w, i32_w]
      rfl
     refine done_ (done_of HT_.out (by kernel_rfl)) ?_
     try go_wp2
     go_meet
     case rel => (try rw [← Nbq11.out]); exact ⟨_, (true), (by first | rfl | (simp; done) | (simp [*]; done)), H', ⟨by have := HK1.out; first | omega | exact Nat.le_refl _⟩, ⟨by (with_reducible repeat (first | refine blk_drewN ?_ _ | refine blk_drew ?_ | refine blk_alloc ?_ _)); exact BK218.out⟩, ⟨by (with_reducible repeat (first | refine blk_drewN ?_ _ | refine blk_drew ?_ | refine blk_alloc ?_ _)); exact BK220.out⟩, ⟨by repeat (first | (with_reducible first | exact HB.out | apply below_alloc | apply pw_below_drewN | apply below_drew1 | refine below_set ?_ GE218.out | refine below_set ?_ GE220.out) | exact HB.out)⟩⟩
    rw [if_neg c13] at H
    have c13b0 : (((rd_T109 l0_1 x11_1).f2.f2) == a0_0) = false := beq_eq_false_iff_ne.mpr c13
    have c13b1 : (((rd_T109 l0_1 x11_1).f2.f2) != a0_0) = true := bne_iff_ne.mpr c13
    by_cases c16 : ((rd_T109 l0_1 x11_1).f2.f0) ≥ a0_0
    case pos =>
     rw [if_pos c16] at H
     have c16b0 : decide (a0_0 ≤ ((rd_T109 l0_1 x11_1).f2.f0)) = true := decide_eq_true c16
     clear c16
     have H' := aM H
     clear H
     try go_wp2
     have n0_ : Aside0 ((((((((((((w8.setCell ⟨gb220, 0, none⟩ (.bool ((rd_T109 l0_1 x11_1).f0))).setCell ⟨gb220, 1, none⟩ (.bool (true))).setCell ⟨gb220, 2, none⟩ (.int .i64 ((rd_T109 l0_1 x11_1).f2.f0))).setCell ⟨gb220, 3, none⟩ (.int .i64 ((rd_T109 l0_1 x11_1).f2.f1))).setCell ⟨gb220, 4, none⟩ (.int .i64 ((rd_T109 l0_1 x11_1).f2.f2))).setCell ⟨gb220, 5, none⟩ (.int .i64 ((rd_T109 l0_1 x11_1).f2.f3))).setCell ⟨gb220, 6, none⟩ (.int .i64 ((rd_T109 l0_1 x11_1).f3))).setCell ⟨gb220, 7, none⟩ (.int .i64 ((rd_T109 l0_1 x11_1).f4))).setCell ⟨gb220, 8, none⟩ (.int .i64 ((rd_T109 l0_1 x11_1).f5))).setCell ⟨gb220, 9, none⟩ (.int .i64 ((rd_T109 l0_1 x11_1).f6))).setCell ⟨gb220, 10, none⟩ (.bool ((rd_T109 l0_1 x11_1).f7))).heap[gb]? = some (.cells #[.int .i64 a0_0, .slice (some ad219) l0_1.length c0_1] 66 (0, 0))) := ⟨by (with_reducible repeat (first | refine blk_drewN ?_ _ | refine blk_drew ?_ | refine blk_alloc ?_ _)); refine blk_far ?_ NB218_220.out _; (with_reducible repeat (first | refine blk_drewN ?_ _ | refine blk_drew ?_ | refine blk_alloc ?_ _)); refine blk_far ?_ NB218_220.out _; (with_reducible repeat (first | refine blk_drewN ?_ _ | refine blk_drew ?_ | refine blk_alloc ?_ _)); refine blk_far ?_ NB218_220.out _; (with_reducible repeat (first | refine blk_drewN ?_ _ | refine blk_drew ?_ | refine blk_alloc ?_ _)); refine blk_far ?_ NB218_220.out _; (with_reducible repeat (first | refine blk_drewN ?_ _ | refine blk_drew ?_ | refine blk_alloc ?_ _)); refine blk_far ?_ NB218_220.out _; (with_reducible repeat (first | refine blk_drewN ?_ _ | refine blk_drew ?_ | refine blk_alloc ?_ _)); refine blk_far ?_ NB218_220.out _; (with_reducible repeat (first | refine blk_drewN ?_ _ | refine blk_drew ?_ | refine blk_alloc ?_ _)); refine blk_far ?_ NB218_220.out _; (with_reducible repeat (first | refine blk_drewN ?_ _ | refine blk_drew ?_ | refine blk_alloc ?_ _)); refine blk_far ?_ NB218_220.out _; (with_reducible repeat (first | refine blk_drewN ?_ _ | refine blk_drew ?_ | refine blk_alloc ?_ _)); refine blk_far ?_ NB218_220.out _; (with_reducible repeat (first | refine blk_drewN ?_ _ | refine blk_drew ?_ | refine blk_alloc ?_ _)); refine blk_far ?_ NB218_220.out _; (with_reducible repeat (first | refine blk_drewN ?_ _ | refine blk_drew ?_ | refine blk_alloc ?_ _)); refine blk_far ?_ NB218_220.out _; (with_reducible repeat (first | refine blk_drewN ?_ _ | refine blk_drew ?_ | refine blk_alloc ?_ _)); exact BK218.out⟩
     have n1_ : Aside0 ((((((((((((w8.setCell ⟨gb220, 0, none⟩ (.bool ((rd_T109 l0_1 x11_1).f0))).setCell ⟨gb220, 1, none⟩ (.bool (true))).setCell ⟨gb220, 2, none⟩ (.int .i64 ((rd_T109 l0_1 x11_1).f2.f0))).setCell ⟨gb220, 3, none⟩ (.int .i64 ((rd_T109 l0_1 x11_1).f2.f1))).setCell ⟨gb220, 4, none⟩ (.int .i64 ((rd_T109 l0_1 x11_1).f2.f2))).setCell ⟨gb220, 5, none⟩ (.int .i64 ((rd_T109 l0_1 x11_1).f2.f3))).setCell ⟨gb220, 6, none⟩ (.int .i64 ((rd_T109 l0_1 x11_1).f3))).setCell ⟨gb220, 7, none⟩ (.int .i64 ((rd_T109 l0_1 x11_1).f4))).setCell ⟨gb220, 8, none⟩ (.int .i64 ((rd_T109 l0_1 x11_1).f5))).setCell ⟨gb220, 9, none⟩ (.int .i64 ((rd_T109 l0_1 x11_1).f6))).setCell ⟨gb220, 10, none⟩ (.bool ((rd_T109 l0_1 x11_1).f7))).heap[gb220]? = some (.cells #[.bool ((rd_T109 l0_1 x11_1).f0), .bool true, .int .i64 ((rd_T109 l0_1 x11_1).f2.f0), .int .i64 ((rd_T109 l0_1 x11_1).f2.f1), .int .i64 ((rd_T109 l0_1 x11_1).f2.f2), .int .i64 ((rd_T109 l0_1 x11_1).f2.f3), .int .i64 ((rd_T109 l0_1 x11_1).f3), .int .i64 ((rd_T109 l0_1 x11_1).f4), .int .i64 ((rd_T109 l0_1 x11_1).f5), .int .i64 ((rd_T109 l0_1 x11_1).f6), .bool ((rd_T109 l0_1 x11_1).f7)] 109 (0, 0))) := ⟨by (with_reducible repeat (first | refine blk_drewN ?_ _ | refine blk_drew ?_ | refine blk_alloc ?_ _)); refine blk_put (cs := #[.bool ((rd_T109 l0_1 x11_1).f0), .bool (true), .int .i64 ((rd_T109 l0_1 x11_1).f2.f0), .int .i64 ((rd_T109 l0_1 x11_1).f2.f1), .int .i64 ((rd_T109 l0_1 x11_1).f2.f2), .int .i64 ((rd_T109 l0_1 x11_1).f2.f3), .int .i64 ((rd_T109 l0_1 x11_1).f3), .int .i64 ((rd_T109 l0_1 x11_1).f4), .int .i64 ((rd_T109 l0_1 x11_1).f5), .int .i64 ((rd_T109 l0_1 x11_1).f6), .bool false]) ?_ 10 _ rfl; (with_reducible repeat (first | refine blk_drewN ?_ _ | refine blk_drew ?_ | refine blk_alloc ?_ _)); refine blk_put (cs := #[.bool ((rd_T109 l0_1 x11_1).f0), .bool (true), .int .i64 ((rd_T109 l0_1 x11_1).f2.f0), .int .i64 ((rd_T109 l0_1 x11_1).f2.f1), .int .i64 ((rd_T109 l0_1 x11_1).f2.f2), .int .i64 ((rd_T109 l0_1 x11_1).f2.f3), .int .i64 ((rd_T109 l0_1 x11_1).f3), .int .i64 ((rd_T109 l0_1 x11_1).f4), .int .i64 ((rd_T109 l0_1 x11_1).f5), .int .i64 0, .bool false]) ?_ 9 _ rfl; (with_reducible repeat (first | refine blk_drewN ?_ _ | refine blk_drew ?_ | refine blk_alloc ?_ _)); refine blk_put (cs := #[.bool ((rd_T109 l0_1 x11_1).f0), .bool (true), .int .i64 ((rd_T109 l0_1 x11_1).f2.f0), .int .i64 ((rd_T109 l0_1 x11_1).f2.f1), .int .i64 ((rd_T109 l0_1 x11_1).f2.f2), .int .i64 ((rd_T109 l0_1 x11_1).f2.f3), .int .i64 ((rd_T109 l0_1 x11_1).f3), .int .i64 ((rd_T109 l0_1 x11_1).f4), .int .i64 0, .int .i64 0, .bool false]) ?_ 8 _ rfl; (with_reducible repeat (first | refine blk_drewN ?_ _ | refine blk_drew ?_ | refine blk_alloc ?_ _)); refine blk_put (cs := #[.bool ((rd_T109 l0_1 x11_1).f0), .bool (true), .int .i64 ((rd_T109 l0_1 x11_1).f2.f0), .int .i64 ((rd_T109 l0_1 x11_1).f2.f1), .int .i64 ((rd_T109 l0_1 x11_1).f2.f2), .int .i64 ((rd_T109 l0_1 x11_1).f2.f3), .int .i64 ((rd_T109 l0_1 x11_1).f3), .int .i64 0, .int .i64 0, .int .i64 0, .bool false]) ?_ 7 _ rfl; (with_reducible repeat (first | refine blk_drewN ?_ _ | refine blk_drew ?_ | refine blk_alloc ?_ _)); refine blk_put (cs := #[.bool ((rd_T109 l0_1 x11_1).f0), .bool (true), .int .i64 ((rd_T109 l0_1 x11_1).f2.f0), .int .i64 ((rd_T109 l0_1 x11_1).f2.f1), .int .i64 ((rd_T109 l0_1 x11_1).f2.f2), .int .i64 ((rd_T109 l0_1 x11_1).f2.f3), .int .i64 0, .int .i64 0, .int .i64 0, .int .i64 0, .bool false]) ?_ 6 _ rfl; (with_reducible repeat (first | refine blk_drewN ?_ _ | refine blk_drew ?_ | refine blk_alloc ?_ _)); refine blk_put (cs := #[.bool ((rd_T109 l0_1 x11_1).f0), .bool (true), .int .i64 ((rd_T109 l0_1 x11_1).f2.f0), .int .i64 ((rd_T109 l0_1 x11_1).f2.f1), .int .i64 ((rd_T109 l0_1 x11_1).f2.f2), .int .i64 0, .int .i64 0, .int .i64 0, .int .i64 0, .int .i64 0, .bool false]) ?_ 5 _ rfl; (with_reducible repeat (first | refine blk_drewN ?_ _ | refine blk_drew ?_ | refine blk_alloc ?_ _)); refine blk_put (cs := #[.bool ((rd_T109 l0_1 x11_1).f0), .bool (true), .int .i64 ((rd_T109 l0_1 x11_1).f2.f0), .int .i64 ((rd_T109 l0_1 x11_1).f2.f1), .int .i64 0, .int .i64 0, .int .i64 0, .int .i64 0, .int .i64 0, .int .i64 0, .bool false]) ?_ 4 _ rfl; (with_reducible repeat (first | refine blk_drewN ?_ _ | refine blk_drew ?_ | refine blk_alloc ?_ _)); refine blk_put (cs := #[.bool ((rd_T109 l0_1 x11_1).f0), .bool (true), .int .i64 ((rd_T109 l0_1 x11_1).f2.f0), .int .i64 0, .int .i64 0, .int .i64 0, .int .i64 0, .int .i64 0, .int .i64 0, .int .i64 0, .bool false]) ?_ 3 _ rfl; (with_reducible repeat (first | refine blk_drewN ?_ _ | refine blk_drew ?_ | refine blk_alloc ?_ _)); refine blk_put (cs := #[.bool ((rd_T109 l0_1 x11_1).f0), .bool (true), .int .i64 0, .int .i64 0, .int .i64 0, .int .i64 0, .int .i64 0, .int .i64 0, .int .i64 0, .int .i64 0, .bool false]) ?_ 2 _ rfl; (with_reducible repeat (first | refine blk_drewN ?_ _ | refine blk_drew ?_ | refine blk_alloc ?_ _)); refine blk_put (cs := #[.bool ((rd_T109 l0_1 x11_1).f0), .bool false, .int .i64 0, .int .i64 0, .int .i64 0, .int .i64 0, .int .i64 0, .int .i64 0, .int .i64 0, .int .i64 0, .bool false]) ?_ 1 _ rfl; (with_reducible repeat (first | refine blk_drewN ?_ _ | refine blk_drew ?_ | refine blk_alloc ?_ _)); refine blk_put (cs := #[.bool false, .bool false, .int .i64 0, .int .i64 0, .int .i64 0, .int .i64 0, .int .i64 0, .int .i64 0, .int .i64 0, .int .i64 0, .bool false]) ?_ 0 _ rfl; (with_reducible repeat (first | refine blk_drewN ?_ _ | refine blk_drew ?_ | refine blk_alloc ?_ _)); exact BK220.out⟩
     have n2_ : Aside0 (Below w.heap.size w (((((((((((w8.setCell ⟨gb220, 0, none⟩ (.bool ((rd_T109 l0_1 x11_1).f0))).setCell ⟨gb220, 1, none⟩ (.bool (true))).setCell ⟨gb220, 2, none⟩ (.int .i64 ((rd_T109 l0_1 x11_1).f2.f0))).setCell ⟨gb220, 3, none⟩ (.int .i64 ((rd_T109 l0_1 x11_1).f2.f1))).setCell ⟨gb220, 4, none⟩ (.int .i64 ((rd_T109 l0_1 x11_1).f2.f2))).setCell ⟨gb220, 5, none⟩ (.int .i64 ((rd_T109 l0_1 x11_1).f2.f3))).setCell ⟨gb220, 6, none⟩ (.int .i64 ((rd_T109 l0_1 x11_1).f3))).setCell ⟨gb220, 7, none⟩ (.int .i64 ((rd_T109 l0_1 x11_1).f4))).setCell ⟨gb220, 8, none⟩ (.int .i64 ((rd_T109 l0_1 x11_1).f5))).setCell ⟨gb220, 9, none⟩ (.int .i64 ((rd_T109 l0_1 x11_1).f6))).setCell ⟨gb220, 10, none⟩ (.bool ((rd_T109 l0_1 x11_1).f7)))) := ⟨by repeat (first | (with_reducible first | exact HB.out | apply below_alloc | apply pw_below_drewN | apply below_drew1 | refine below_set ?_ GE218.out | refine below_set ?_ GE220.out) | exact HB.out)⟩
     (try clear BK218)
     (try clear BK220)
     (try clear HB)
     generalize (((((((((((w8.setCell ⟨gb220, 0, none⟩ (.bool ((rd_T109 l0_1 x11_1).f0))).setCell ⟨gb220, 1, none⟩ (.bool (true))).setCell ⟨gb220, 2, none⟩ (.int .i64 ((rd_T109 l0_1 x11_1).f2.f0))).setCell ⟨gb220, 3, none⟩ (.int .i64 ((rd_T109 l0_1 x11_1).f2.f1))).setCell ⟨gb220, 4, none⟩ (.int .i64 ((rd_T109 l0_1 x11_1).f2.f2))).setCell ⟨gb220, 5, none⟩ (.int .i64 ((rd_T109 l0_1 x11_1).f2.f3))).setCell ⟨gb220, 6, none⟩ (.int .i64 ((rd_T109 l0_1 x11_1).f3))).setCell ⟨gb220, 7, none⟩ (.int .i64 ((rd_T109 l0_1 x11_1).f4))).setCell ⟨gb220, 8, none⟩ (.int .i64 ((rd_T109 l0_1 x11_1).f5))).setCell ⟨gb220, 9, none⟩ (.int .i64 ((rd_T109 l0_1 x11_1).f6))).setCell ⟨gb220, 10, none⟩ (.bool ((rd_T109 l0_1 x11_1).f7))) = w17 at n0_ n1_ n2_ ⊢
     have BK218 := n0_
     have BK220 := n1_
     have HB := n2_
     clear n0_ n1_ n2_
     have n0_ := aM (blk_drew BK218.out)
     have n1_ := aM (blk_drew BK220.out)
     have n2_ := aM (below_drew1 HB.out)
     clear BK218
     clear BK220
     clear HB
     have BK218 := n0_
     have BK220 := n1_
     have HB := n2_
     clear n0_ n1_ n2_
     refine start_ (n := 34) (S := fun w' => w'.cell? ⟨gb220, 0, none⟩ = some (.bool ((rd_T109 l0_1 x11_1).f0)) ∧ w'.cell? ⟨gb220, 1, none⟩ = some (.bool true) ∧ w'.cell? ⟨gb220, 2, none⟩ = some (.int .i64 ((rd_T109 l0_1 x11_1).f2.f0)) ∧ w'.cell? ⟨gb220, 3, none⟩ = some (.int .i64 ((rd_T109 l0_1 x11_1).f2.f1)) ∧ w'.cell? ⟨gb220, 4, none⟩ = some (.int .i64 ((rd_T109 l0_1 x11_1).f2.f2)) ∧ w'.cell? ⟨gb220, 5, none⟩ = some (.int .i64 ((rd_T109 l0_1 x11_1).f2.f3)) ∧ w'.cell? ⟨gb220, 6, none⟩ = some (.int .i64 ((rd_T109 l0_1 x11_1).f3)) ∧ w'.cell? ⟨gb220, 7, none⟩ = some (.int .i64 ((rd_T109 l0_1 x11_1).f4)) ∧ w'.cell? ⟨gb220, 8, none⟩ = some (.int .i64 ((rd_T109 l0_1 x11_1).f5)) ∧ w'.cell? ⟨gb220, 9, none⟩ = some (.int .i64 ((rd_T109 l0_1 x11_1).f6)) ∧ w'.cell? ⟨gb220, 10, none⟩ = some (.bool ((rd_T109 l0_1 x11_1).f7)) ∧ w'.cell? ⟨gb, 0, none⟩ = some (.int .i64 a0_0) ∧ w'.cell? ⟨gb, 1, none⟩ = some (.slice (some ad219) l0_1.length c0_1)) (ds := []) #[U,U,U,U,U,U,U,U,U,U,U,U,U,U,U,U,U,U,U,U,U,U,U,U,U,U,U,U,U,U,U,U,U,U] (by kernel_rfl) rfl rfl ⟨(blk_cell BK220.out 0).trans rfl, (blk_cell BK220.out 1).trans rfl, (blk_cell BK220.out 2).trans rfl, (blk_cell BK220.out 3).trans rfl, (blk_cell BK220.out 4).trans rfl, (blk_cell BK220.out 5).trans rfl, (blk_cell BK220.out 6).trans rfl, (blk_cell BK220.out 7).trans rfl, (blk_cell BK220.out 8).trans rfl, (blk_cell BK220.out 9).trans rfl, (blk_cell BK220.out 10).trans rfl, (blk_cell BK218.out 0).trans rfl, (blk_cell BK218.out 1).trans rfl⟩ (fun hHeld => ?_); refine with_tabW impl_Bridge_rootPort.tab5 impl_Bridge_rootPort.bits5 (fun HT_ HW_ => ?_)
     generalize w17.drew = w18 at BK218 BK220 HB hHeld ⊢
     refine pure_ (i := 0) (N := some 16) (v := ?_) (a' := ?_) #[Y,U,U,U,U,U,U,U,U,U,U,U,U,U,U,U,U,U,U,U,U,U,U,U,U,U,U,U,U,U,U,U,U,U] rfl rfl (any_of HT_.out (by kernel_rfl)) (fun _ _ _ h => h) (Or.inl ⟨by rfl, ?_⟩) ?_ ?_
     rotate_left
     ·intro w'
      go_simp
      with_reducible rfl
     rotate_left
     ·simp only [Act.put, sA, sZ, sS, i64_w, i32_w]
      rfl
     refine take_ (i := 1) (N := some 17) (v := ?_) (a' := ?_) #[Y,Y,U,U,U,U,U,U,U,U,U,U,U,U,U,U,U,U,U,U,U,U,U,U,U,U,U,U,U,U,U,U,U,U] rfl rfl (take_ofW HT_.out HW_.out (by kernel_rfl)) (fun _ _ _ h => h) (Or.inl ⟨by rfl, ?_⟩) hHeld ?_ ?_
     rotate_left
     ·rintro w' ⟨s0, s1, s2, s3, s4, s5, s6, s7, s8, s9, s10, s11, s12⟩
      go_simp
      with_reducible rfl
     rotate_left
     ·simp only [Act.put, sA, sZ, sS, i64_w, i32_w]
      rfl
     refine pure_ (i := 2) (N := some 18) (v := ?_) (a' := ?_) #[Y,Y,Y,U,U,U,U,U,U,U,U,U,U,U,U,U,U,U,U,U,U,U,U,U,U,U,U,U,U,U,U,U,U,U] rfl rfl (any_of HT_.out (by kernel_rfl)) (fun _ _ _ h => h) (Or.inl ⟨by rfl, ?_⟩) ?_ ?_
     rotate_left
     ·intro w'
      go_simp
      with_reducible rfl
     rotate_left
     ·simp only [Act.put, sA, sZ, sS, i64_w, i32_w]
      rfl
     refine pure_ (i := 3) (N := some 19) (v := ?_) (a' := ?_) #[Y,Y,Y,Y,U,U,U,U,U,U,U,U,U,U,U,U,U,U,U,U,U,U,U,U,U,U,U,U,U,U,U,U,U,U] rfl rfl (any_of HT_.out (by kernel_rfl)) (fun _ _ _ h => h) (Or.inl ⟨by rfl, ?_⟩) ?_ ?_
     rotate_left
     ·intro w'
      go_simp
      with_reducible rfl
     rotate_left
     ·simp only [Act.put, sA, sZ, sS, i64_w, i32_w]
      rfl
     refine pure_ (i := 4) (N := some 20) (v := ?_) (a' := ?_) #[Y,Y,Y,Y,Y,U,U,U,U,U,U,U,U,U,U,U,U,U,U,U,U,U,U,U,U,U,U,U,U,U,U,U,U,U] rfl rfl (any_of HT_.out (by kernel_rfl)) (fun _ _ _ h => h) (Or.inl ⟨by rfl, ?_⟩) ?_ ?_
     rotate_left
     ·intro w'
      go_simp
      with_reducible rfl
     rotate_left
     ·simp only [Act.put, sA, sZ, sS, i64_w, i32_w]
      rfl
     refine pure_ (i := 5) (N := some 21) (v := ?_) (a' := ?_) #[Y,Y,Y,Y,Y,Y,U,U,U,U,U,U,U,U,U,U,U,U,U,U,U,U,U,U,U,U,U,U,U,U,U,U,U,U] rfl rfl (any_of HT_.out (by kernel_rfl)) (fun _ _ _ h => h) (Or.inl ⟨by rfl, ?_⟩) ?_ ?_
     rotate_left
     ·intro w'
      go_simp
      with_reducible rfl
     rotate_left
     ·simp only [Act.put, sA, sZ, sS, i64_w, i32_w]
      rfl
     refine pure_ (i := 7) (N := some 23) (v := ?_) (a' := ?_) #[Y,Y,Y,Y,Y,Y,U,Y,U,U,U,U,U,U,U,U,U,U,U,U,U,U,U,U,U,U,U,U,U,U,U,U,U,U] rfl rfl (any_of HT_.out (by kernel_rfl)) (fun _ _ _ h => h) (Or.inl ⟨by rfl, ?_⟩) ?_ ?_
     rotate_left
     ·intro w'
      go_simp
      with_reducible rfl
     rotate_left
     ·simp only [Act.put, sA, sZ, sS, i64_w, i32_w]
      rfl
     refine pure_ (i := 8) (N := some 24) (v := ?_) (a' := ?_) #[Y,Y,Y,Y,Y,Y,U,Y,Y,U,U,U,U,U,U,U,U,U,U,U,U,U,U,U,U,U,U,U,U,U,U,U,U,U] rfl rfl (any_of HT_.out (by kernel_rfl)) (fun _ _ _ h => h) (Or.inl ⟨by rfl, ?_⟩) ?_ ?_
     rotate_left
     ·intro w'
      go_simp
      with_reducible rfl
     rotate_left
     ·simp only [Act.put, sA, sZ, sS, i64_w, i32_w]
      rfl
     refine pure_ (i := 9) (N := some 25) (v := ?_) (a' := ?_) #[Y,Y,Y,Y,Y,Y,U,Y,Y,Y,U,U,U,U,U,U,U,U,U,U,U,U,U,U,U,U,U,U,U,U,U,U,U,U] rfl rfl (any_of HT_.out (by kernel_rfl)) (fun _ _ _ h => h) (Or.inl ⟨by rfl, ?_⟩) ?_ ?_
     rotate_left
     ·intro w'
      go_simp
      with_reducible rfl
     rotate_left
     ·simp only [Act.put, sA, sZ, sS, i64_w, i32_w]
      rfl
     refine take_ (i := 6) (N := some 22) (v := ?_) (a' := ?_) #[Y,Y,Y,Y,Y,Y,Y,Y,Y,Y,U,U,U,U,U,U,U,U,U,U,U,U,U,U,U,U,U,U,U,U,U,U,U,U] rfl rfl (take_ofW HT_.out HW_.out (by kernel_rfl)) (fun _ _ _ h => h) (Or.inl ⟨by rfl, ?_⟩) hHeld ?_ ?_
     rotate_left
     ·rintro w' ⟨s0, s1, s2, s3, s4, s5, s6, s7, s8, s9, s10, s11, s12⟩
      go_simp
      with_reducible rfl
     rotate_left
     ·simp only [Act.put, sA, sZ, sS, i64_w, i32_w]
      rfl
     refine take_ (i := 10) (N := some 26) (v := ?_) (a' := ?_) #[Y,Y,Y,Y,Y,Y,Y,Y,Y,Y,Y,U,U,U,U,U,U,U,U,U,U,U,U,U,U,U,U,U,U,U,U,U,U,U] rfl rfl (take_ofW HT_.out HW_.out (by kernel_rfl)) (fun _ _ _ h => h) (Or.inl ⟨by rfl, ?_⟩) hHeld ?_ ?_
     rotate_left
     ·rintro w' ⟨s0, s1, s2, s3, s4, s5, s6, s7, s8, s9, s10, s11, s12⟩
      go_simp
      with_reducible rfl
     rotate_left
     ·simp only [Act.put, sA, sZ, sS, i64_w, i32_w]
      rfl
     refine pure_ (i := 11) (N := some 27) (v := ?_) (a' := ?_) #[Y,Y,Y,Y,Y,Y,Y,Y,Y,Y,Y,Y,U,U,U,U,U,U,U,U,U,U,U,U,U,U,U,U,U,U,U,U,U,U] rfl rfl (any_of HT_.out (by kernel_rfl)) (fun _ _ _ h => h) (Or.inl ⟨by rfl, ?_⟩) ?_ ?_
     rotate_left
     ·intro w'
      go_simp
      with_reducible rfl
     rotate_left
     ·simp only [Act.put, sA, sZ, sS, i64_w, i32_w]
      rfl
     refine pure_ (i := 12) (N := some 28) (v := ?_) (a' := ?_) #[Y,Y,Y,Y,Y,Y,Y,Y,Y,Y,Y,Y,Y,U,U,U,U,U,U,U,U,U,U,U,U,U,U,U,U,U,U,U,U,U] rfl rfl (any_of HT_.out (by kernel_rfl)) (fun _ _ _ h => h) (Or.inl ⟨by rfl, ?_⟩) ?_ ?_
     rotate_left
     ·intro w'
      go_simp
      with_reducible rfl
     rotate_left
     ·simp only [Act.put, sA, sZ, sS, i64_w, i32_w]
      rfl
     refine pure_ (i := 13) (N := some 29) (v := ?_) (a' := ?_) #[Y,Y,Y,Y,Y,Y,Y,Y,Y,Y,Y,Y,Y,Y,U,U,U,U,U,U,U,U,U,U,U,U,U,U,U,U,U,U,U,U] rfl rfl (any_of HT_.out (by kernel_rfl)) (fun _ _ _ h => h) (Or.inl ⟨by rfl, ?_⟩) ?_ ?_
     rotate_left
     ·intro w'
      go_simp
      with_reducible rfl
     rotate_left
     ·simp only [Act.put, sA, sZ, sS, i64_w, i32_w]
      rfl
     refine pure_ (i := 14) (N := some 30) (v := ?_) (a' := ?_) #[Y,Y,Y,Y,Y,Y,Y,Y,Y,Y,Y,Y,Y,Y,Y,U,U,U,U,U,U,U,U,U,U,U,U,U,U,U,U,U,U,U] rfl rfl (any_of HT_.out (by kernel_rfl)) (fun _ _ _ h => h) (Or.inl ⟨by rfl, ?_⟩) ?_ ?_
     rotate_left
     ·intro w'
      go_simp
      with_reducible rfl
     rotate_left
     ·simp only [Act.put, sA, sZ, sS, i64_w, i32_w]
      rfl
     refine pure_ (i := 15) (N := some 31) (v := ?_) (a' := ?_) #[Y,Y,Y,Y,Y,Y,Y,Y,Y,Y,Y,Y,Y,Y,Y,Y,U,U,U,U,U,U,U,U,U,U,U,U,U,U,U,U,U,U] rfl rfl (any_of HT_.out (by kernel_rfl)) (fun _ _ _ h => h) (Or.inl ⟨by rfl, ?_⟩) ?_ ?_
     rotate_left
     ·intro w'
      go_simp
      with_reducible rfl
     rotate_left
     ·simp only [Act.put, sA, sZ, sS, i64_w, i32_w]
      rfl
     refine pure_ (i := 17) (N := some 33) (v := ?_) (a' := ?_) #[Y,Y,Y,Y,Y,Y,Y,Y,Y,Y,Y,Y,Y,Y,Y,Y,U,Y,U,U,U,U,U,U,U,U,U,U,U,U,U,U,U,U] rfl rfl (any_of HT_.out (by kernel_rfl)) (fun _ _ _ h => h) (Or.inl ⟨by rfl, ?_⟩) ?_ ?_
     rotate_left
     ·intro w'
      go_simp
      with_reducible rfl
     rotate_left
     ·simp only [Act.put, sA, sZ, sS, i64_w, i32_w]
      rfl
     refine pure_ (i := 18) (N := some 34) (v := ?_) (a' := ?_) #[Y,Y,Y,Y,Y,Y,Y,Y,Y,Y,Y,Y,Y,Y,Y,Y,U,Y,Y,U,U,U,U,U,U,U,U,U,U,U,U,U,U,U] rfl rfl (any_of HT_.out (by kernel_rfl)) (fun _ _ _ h => h) (Or.inl ⟨by rfl, ?_⟩) ?_ ?_
     rotate_left
     ·intro w'
      go_simp
      with_reducible rfl
     rotate_left
     ·simp only [Act.put, sA, sZ, sS, i64_w, i32_w]
      rfl
     refine pure_ (i := 19) (N := some 35) (v := ?_) (a' := ?_) #[Y,Y,Y,Y,Y,Y,Y,Y,Y,Y,Y,Y,Y,Y,Y,Y,U,Y,Y,Y,U,U,U,U,U,U,U,U,U,U,U,U,U,U] rfl rfl (any_of HT_.out (by kernel_rfl)) (fun _ _ _ h => h) (Or.inl ⟨by rfl, ?_⟩) ?_ ?_
     rotate_left
     ·intro w'
      go_simp
      with_reducible rfl
     rotate_left
     ·simp only [Act.put, sA, sZ, sS, i64_w, i32_w]
      rfl
     refine take_ (i := 16) (N := some 32) (v := ?_) (a' := ?_) #[Y,Y,Y,Y,Y,Y,Y,Y,Y,Y,Y,Y,Y,Y,Y,Y,Y,Y,Y,Y,U,U,U,U,U,U,U,U,U,U,U,U,U,U] rfl rfl (take_ofW HT_.out HW_.out (by kernel_rfl)) (fun _ _ _ h => h) (Or.inl ⟨by rfl, ?_⟩) hHeld ?_ ?_
     rotate_left
     ·rintro w' ⟨s0, s1, s2, s3, s4, s5, s6, s7, s8, s9, s10, s11, s12⟩
      go_simp
      with_reducible rfl
     rotate_left
     ·simp only [Act.put, sA, sZ, sS, i64_w, i32_w]
      rfl
     refine take_ (i := 20) (N := some 36) (v := ?_) (a' := ?_) #[Y,Y,Y,Y,Y,Y,Y,Y,Y,Y,Y,Y,Y,Y,Y,Y,Y,Y,Y,Y,Y,U,U,U,U,U,U,U,U,U,U,U,U,U] rfl rfl (take_ofW HT_.out HW_.out (by kernel_rfl)) (fun _ _ _ h => h) (Or.inl ⟨by rfl, ?_⟩) hHeld ?_ ?_
     rotate_left
     ·rintro w' ⟨s0, s1, s2, s3, s4, s5, s6, s7, s8, s9, s10, s11, s12⟩
      go_simp
      with_reducible rfl
     rotate_left
     ·simp only [Act.put, sA, sZ, sS, i64_w, i32_w]
      rfl
     refine pure_ (i := 21) (N := some 37) (v := ?_) (a' := ?_) #[Y,Y,Y,Y,Y,Y,Y,Y,Y,Y,Y,Y,Y,Y,Y,Y,Y,Y,Y,Y,Y,Y,U,U,U,U,U,U,U,U,U,U,U,U] rfl rfl (any_of HT_.out (by kernel_rfl)) (fun _ _ _ h => h) (Or.inl ⟨by rfl, ?_⟩) ?_ ?_
     rotate_left
     ·intro w'
      go_simp
      with_reducible rfl
     rotate_left
     ·simp only [Act.put, sA, sZ, sS, i64_w, i32_w]
      rfl
     refine pure_ (i := 22) (N := some 38) (v := ?_) (a' := ?_) #[Y,Y,Y,Y,Y,Y,Y,Y,Y,Y,Y,Y,Y,Y,Y,Y,Y,Y,Y,Y,Y,Y,Y,U,U,U,U,U,U,U,U,U,U,U] rfl rfl (any_of HT_.out (by kernel_rfl)) (fun _ _ _ h => h) (Or.inl ⟨by rfl, ?_⟩) ?_ ?_
     rotate_left
     ·intro w'
      go_simp
      with_reducible rfl
     rotate_left
     ·simp only [Act.put, sA, sZ, sS, i64_w, i32_w]
      rfl
     refine pure_ (i := 23) (N := some 39) (v := ?_) (a' := ?_) #[Y,Y,Y,Y,Y,Y,Y,Y,Y,Y,Y,Y,Y,Y,Y,Y,Y,Y,Y,Y,Y,Y,Y,Y,U,U,U,U,U,U,U,U,U,U] rfl rfl (any_of HT_.out (by kernel_rfl)) (fun _ _ _ h => h) (Or.inl ⟨by rfl, ?_⟩) ?_ ?_
     rotate_left
     ·intro w'
      go_simp
      with_reducible rfl
     rotate_left
     ·simp only [Act.put, sA, sZ, sS, i64_w, i32_w]
      rfl
     refine pure_ (i := 24) (N := some 40) (v := undef) (a' := ?_) #[Y,Y,Y,Y,Y,Y,Y,Y,Y,Y,Y,Y,Y,Y,Y,Y,Y,Y,Y,Y,Y,Y,Y,Y,Y,U,U,U,U,U,U,U,U,U] rfl rfl (any_of HT_.out (by kernel_rfl)) (fun _ _ _ h => h) (Or.inr ⟨by rfl, rfl⟩) ?_ ?_
     rotate_left
     ·simp only [Act.put, sA, sZ, sS, i64_w, i32_w]
      rfl
     refine pure_ (i := 25) (N := some 41) (v := undef) (a' := ?_) #[Y,Y,Y,Y,Y,Y,Y,Y,Y,Y,Y,Y,Y,Y,Y,Y,Y,Y,Y,Y,Y,Y,Y,Y,Y,Y,U,U,U,U,U,U,U,U] rfl rfl (any_of HT_.out (by kernel_rfl)) (fun _ _ _ h => h) (Or.inr ⟨by rfl, rfl⟩) ?_ ?_
     rotate_left
     ·simp only [Act.put, sA, sZ, sS, i64_w, i32_w]
      rfl
     refine pure_ (i := 26) (N := some 42) (v := undef) (a' := ?_) #[Y,Y,Y,Y,Y,Y,Y,Y,Y,Y,Y,Y,Y,Y,Y,Y,Y,Y,Y,Y,Y,Y,Y,Y,Y,Y,Y,U,U,U,U,U,U,U] rfl rfl (any_of HT_.out (by kernel_rfl)) (fun _ _ _ h => h) (Or.inr ⟨by rfl, rfl⟩) ?_ ?_
     rotate_left
     ·simp only [Act.put, sA, sZ, sS, i64_w, i32_w]
      rfl
     refine pure_ (i := 27) (N := some 43) (v := undef) (a' := ?_) #[Y,Y,Y,Y,Y,Y,Y,Y,Y,Y,Y,Y,Y,Y,Y,Y,Y,Y,Y,Y,Y,Y,Y,Y,Y,Y,Y,Y,U,U,U,U,U,U] rfl rfl (any_of HT_.out (by kernel_rfl)) (fun _ _ _ h => h) (Or.inr ⟨by rfl, rfl⟩) ?_ ?_
     rotate_left
     ·simp only [Act.put, sA, sZ, sS, i64_w, i32_w]
      rfl
     refine pure_ (i := 28) (N := some 44) (v := ?_) (a' := ?_) #[Y,Y,Y,Y,Y,Y,Y,Y,Y,Y,Y,Y,Y,Y,Y,Y,Y,Y,Y,Y,Y,Y,Y,Y,Y,Y,Y,Y,Y,U,U,U,U,U] rfl rfl (any_of HT_.out (by kernel_rfl)) (fun _ _ _ h => h) (Or.inl ⟨by rfl, ?_⟩) ?_ ?_
     rotate_left
     ·intro w'
      go_simp
      with_reducible rfl
     rotate_left
     ·simp only [Act.put, sA, sZ, sS, i64_w, i32_w]
      rfl
     refine pure_ (i := 29) (N := some 45) (v := ?_) (a' := ?_) #[Y,Y,Y,Y,Y,Y,Y,Y,Y,Y,Y,Y,Y,Y,Y,Y,Y,Y,Y,Y,Y,Y,Y,Y,Y,Y,Y,Y,Y,Y,U,U,U,U] rfl rfl (any_of HT_.out (by kernel_rfl)) (fun _ _ _ h => h) (Or.inl ⟨by rfl, ?_⟩) ?_ ?_
     rotate_left
     ·intro w'
      go_simp
      with_reducible rfl
     rotate_left
     ·simp only [Act.put, sA, sZ, sS, i64_w, i32_w]
      rfl
     refine pure_ (i := 30) (N := some 46) (v := undef) (a' := ?_) #[Y,Y,Y,Y,Y,Y,Y,Y,Y,Y,Y,Y,Y,Y,Y,Y,Y,Y,Y,Y,Y,Y,Y,Y,Y,Y,Y,Y,Y,Y,Y,U,U,U] rfl rfl (any_of HT_.out (by kernel_rfl)) (fun _ _ _ h => h) (Or.inr ⟨by rfl, rfl⟩) ?_ ?_
     rotate_left
     ·simp only [Act.put, sA, sZ, sS, i64_w, i32_w]
      rfl
     refine pure_ (i := 31) (N := some 47) (v := undef) (a' := ?_) #[Y,Y,Y,Y,Y,Y,Y,Y,Y,Y,Y,Y,Y,Y,Y,Y,Y,Y,Y,Y,Y,Y,Y,Y,Y,Y,Y,Y,Y,Y,Y,Y,U,U] rfl rfl (any_of HT_.out (by kernel_rfl)) (fun _ _ _ h => h) (Or.inr ⟨by rfl, rfl⟩) ?_ ?_
     rotate_left
     ·simp only [Act.put, sA, sZ, sS, i64_w, i32_w]
      rfl
     refine pure_ (i := 32) (N := some 48) (v := undef) (a' := ?_) #[Y,Y,Y,Y,Y,Y,Y,Y,Y,Y,Y,Y,Y,Y,Y,Y,Y,Y,Y,Y,Y,Y,Y,Y,Y,Y,Y,Y,Y,Y,Y,Y,Y,U] rfl rfl (any_of HT_.out (by kernel_rfl)) (fun _ _ _ h => h) (Or.inr ⟨by rfl, rfl⟩) ?_ ?_
     rotate_left
     ·simp only [Act.put, sA, sZ, sS, i64_w, i32_w]
      rfl
     refine pure_ (i := 33) (N := some 49) (v := ?_) (a' := ?_) #[Y,Y,Y,Y,Y,Y,Y,Y,Y,Y,Y,Y,Y,Y,Y,Y,Y,Y,Y,Y,Y,Y,Y,Y,Y,Y,Y,Y,Y,Y,Y,Y,Y,Y] rfl rfl (any_of HT_.out (by kernel_rfl)) (fun _ _ _ h => h) (Or.inl ⟨by rfl, ?_⟩) ?_ ?_
     rotate_left
     ·intro w'
      go_simp
      with_reducible rfl
     rotate_left
     ·simp only [Act.put, sA, sZ, sS, i64_w, i32_w]
      rfl
     refine done_ (done_of HT_.out (by kernel_rfl)) ?_
     try go_wp2
     go_meet
     case rel => (try rw [← Nbq11.out]); exact ⟨_, (true), (by first | rfl | (simp; done) | (simp [*]; done)), H', ⟨by have := HK1.out; first | omega | exact Nat.le_refl _⟩, ⟨by (with_reducible repeat (first | refine blk_drewN ?_ _ | refine blk_drew ?_ | refine blk_alloc ?_ _)); exact BK218.out⟩, ⟨by (with_reducible repeat (first | refine blk_drewN ?_ _ | refine blk_drew ?_ | refine blk_alloc ?_ _)); exact BK220.out⟩, ⟨by repeat (first | (with_reducible first | exact HB.out | apply below_alloc | apply pw_below_drewN | apply below_drew1 | refine below_set ?_ GE218.out | refine below_set ?_ GE220.out) | exact HB.out)⟩⟩
    rw [if_neg c16] at H
    have c16b0 : decide (a0_0 ≤ ((rd_T109 l0_1 x11_1).f2.f0)) = false := decide_eq_false c16
    clear c16
    by_cases c19 : ((rd_T109 l0_1 x11_1).f2.f1) ≥ 20
    case pos =>
     rw [if_pos c19] at H
     have c19b0 : decide (20 ≤ ((rd_T109 l0_1 x11_1).f2.f1)) = true := decide_eq_true c19
     clear c19
     have H' := aM H
     clear H
     try go_wp2
     have n0_ : Aside0 ((((((((((((w8.setCell ⟨gb220, 0, none⟩ (.bool ((rd_T109 l0_1 x11_1).f0))).setCell ⟨gb220, 1, none⟩ (.bool (true))).setCell ⟨gb220, 2, none⟩ (.int .i64 ((rd_T109 l0_1 x11_1).f2.f0))).setCell ⟨gb220, 3, none⟩ (.int .i64 ((rd_T109 l0_1 x11_1).f2.f1))).setCell ⟨gb220, 4, none⟩ (.int .i64 ((rd_T109 l0_1 x11_1).f2.f2))).setCell ⟨gb220, 5, none⟩ (.int .i64 ((rd_T109 l0_1 x11_1).f2.f3))).setCell ⟨gb220, 6, none⟩ (.int .i64 ((rd_T109 l0_1 x11_1).f3))).setCell ⟨gb220, 7, none⟩ (.int .i64 ((rd_T109 l0_1 x11_1).f4))).setCell ⟨gb220, 8, none⟩ (.int .i64 ((rd_T109 l0_1 x11_1).f5))).setCell ⟨gb220, 9, none⟩ (.int .i64 ((rd_T109 l0_1 x11_1).f6))).setCell ⟨gb220, 10, none⟩ (.bool ((rd_T109 l0_1 x11_1).f7))).heap[gb]? = some (.cells #[.int .i64 a0_0, .slice (some ad219) l0_1.length c0_1] 66 (0, 0))) := ⟨by (with_reducible repeat (first | refine blk_drewN ?_ _ | refine blk_drew ?_ | refine blk_alloc ?_ _)); refine blk_far ?_ NB218_220.out _; (with_reducible repeat (first | refine blk_drewN ?_ _ | refine blk_drew ?_ | refine blk_alloc ?_ _)); refine blk_far ?_ NB218_220.out _; (with_reducible repeat (first | refine blk_drewN ?_ _ | refine blk_drew ?_ | refine blk_alloc ?_ _)); refine blk_far ?_ NB218_220.out _; (with_reducible repeat (first | refine blk_drewN ?_ _ | refine blk_drew ?_ | refine blk_alloc ?_ _)); refine blk_far ?_ NB218_220.out _; (with_reducible repeat (first | refine blk_drewN ?_ _ | refine blk_drew ?_ | refine blk_alloc ?_ _)); refine blk_far ?_ NB218_220.out _; (with_reducible repeat (first | refine blk_drewN ?_ _ | refine blk_drew ?_ | refine blk_alloc ?_ _)); refine blk_far ?_ NB218_220.out _; (with_reducible repeat (first | refine blk_drewN ?_ _ | refine blk_drew ?_ | refine blk_alloc ?_ _)); refine blk_far ?_ NB218_220.out _; (with_reducible repeat (first | refine blk_drewN ?_ _ | refine blk_drew ?_ | refine blk_alloc ?_ _)); refine blk_far ?_ NB218_220.out _; (with_reducible repeat (first | refine blk_drewN ?_ _ | refine blk_drew ?_ | refine blk_alloc ?_ _)); refine blk_far ?_ NB218_220.out _; (with_reducible repeat (first | refine blk_drewN ?_ _ | refine blk_drew ?_ | refine blk_alloc ?_ _)); refine blk_far ?_ NB218_220.out _; (with_reducible repeat (first | refine blk_drewN ?_ _ | refine blk_drew ?_ | refine blk_alloc ?_ _)); refine blk_far ?_ NB218_220.out _; (with_reducible repeat (first | refine blk_drewN ?_ _ | refine blk_drew ?_ | refine blk_alloc ?_ _)); exact BK218.out⟩
     have n1_ : Aside0 ((((((((((((w8.setCell ⟨gb220, 0, none⟩ (.bool ((rd_T109 l0_1 x11_1).f0))).setCell ⟨gb220, 1, none⟩ (.bool (true))).setCell ⟨gb220, 2, none⟩ (.int .i64 ((rd_T109 l0_1 x11_1).f2.f0))).setCell ⟨gb220, 3, none⟩ (.int .i64 ((rd_T109 l0_1 x11_1).f2.f1))).setCell ⟨gb220, 4, none⟩ (.int .i64 ((rd_T109 l0_1 x11_1).f2.f2))).setCell ⟨gb220, 5, none⟩ (.int .i64 ((rd_T109 l0_1 x11_1).f2.f3))).setCell ⟨gb220, 6, none⟩ (.int .i64 ((rd_T109 l0_1 x11_1).f3))).setCell ⟨gb220, 7, none⟩ (.int .i64 ((rd_T109 l0_1 x11_1).f4))).setCell ⟨gb220, 8, none⟩ (.int .i64 ((rd_T109 l0_1 x11_1).f5))).setCell ⟨gb220, 9, none⟩ (.int .i64 ((rd_T109 l0_1 x11_1).f6))).setCell ⟨gb220, 10, none⟩ (.bool ((rd_T109 l0_1 x11_1).f7))).heap[gb220]? = some (.cells #[.bool ((rd_T109 l0_1 x11_1).f0), .bool true, .int .i64 ((rd_T109 l0_1 x11_1).f2.f0), .int .i64 ((rd_T109 l0_1 x11_1).f2.f1), .int .i64 ((rd_T109 l0_1 x11_1).f2.f2), .int .i64 ((rd_T109 l0_1 x11_1).f2.f3), .int .i64 ((rd_T109 l0_1 x11_1).f3), .int .i64 ((rd_T109 l0_1 x11_1).f4), .int .i64 ((rd_T109 l0_1 x11_1).f5), .int .i64 ((rd_T109 l0_1 x11_1).f6), .bool ((rd_T109 l0_1 x11_1).f7)] 109 (0, 0))) := ⟨by (with_reducible repeat (first | refine blk_drewN ?_ _ | refine blk_drew ?_ | refine blk_alloc ?_ _)); refine blk_put (cs := #[.bool ((rd_T109 l0_1 x11_1).f0), .bool (true), .int .i64 ((rd_T109 l0_1 x11_1).f2.f0), .int .i64 ((rd_T109 l0_1 x11_1).f2.f1), .int .i64 ((rd_T109 l0_1 x11_1).f2.f2), .int .i64 ((rd_T109 l0_1 x11_1).f2.f3), .int .i64 ((rd_T109 l0_1 x11_1).f3), .int .i64 ((rd_T109 l0_1 x11_1).f4), .int .i64 ((rd_T109 l0_1 x11_1).f5), .int .i64 ((rd_T109 l0_1 x11_1).f6), .bool false]) ?_ 10 _ rfl; (with_reducible repeat (first | refine blk_drewN ?_ _ | refine blk_drew ?_ | refine blk_alloc ?_ _)); refine blk_put (cs := #[.bool ((rd_T109 l0_1 x11_1).f0), .bool (true), .int .i64 ((rd_T109 l0_1 x11_1).f2.f0), .int .i64 ((rd_T109 l0_1 x11_1).f2.f1), .int .i64 ((rd_T109 l0_1 x11_1).f2.f2), .int .i64 ((rd_T109 l0_1 x11_1).f2.f3), .int .i64 ((rd_T109 l0_1 x11_1).f3), .int .i64 ((rd_T109 l0_1 x11_1).f4), .int .i64 ((rd_T109 l0_1 x11_1).f5), .int .i64 0, .bool false]) ?_ 9 _ rfl; (with_reducible repeat (first | refine blk_drewN ?_ _ | refine blk_drew ?_ | refine blk_alloc ?_ _)); refine blk_put (cs := #[.bool ((rd_T109 l0_1 x11_1).f0), .bool (true), .int .i64 ((rd_T109 l0_1 x11_1).f2.f0), .int .i64 ((rd_T109 l0_1 x11_1).f2.f1), .int .i64 ((rd_T109 l0_1 x11_1).f2.f2), .int .i64 ((rd_T109 l0_1 x11_1).f2.f3), .int .i64 ((rd_T109 l0_1 x11_1).f3), .int .i64 ((rd_T109 l0_1 x11_1).f4), .int .i64 0, .int .i64 0, .bool false]) ?_ 8 _ rfl; (with_reducible repeat (first | refine blk_drewN ?_ _ | refine blk_drew ?_ | refine blk_alloc ?_ _)); refine blk_put (cs := #[.bool ((rd_T109 l0_1 x11_1).f0), .bool (true), .int .i64 ((rd_T109 l0_1 x11_1).f2.f0), .int .i64 ((rd_T109 l0_1 x11_1).f2.f1), .int .i64 ((rd_T109 l0_1 x11_1).f2.f2), .int .i64 ((rd_T109 l0_1 x11_1).f2.f3), .int .i64 ((rd_T109 l0_1 x11_1).f3), .int .i64 0, .int .i64 0, .int .i64 0, .bool false]) ?_ 7 _ rfl; (with_reducible repeat (first | refine blk_drewN ?_ _ | refine blk_drew ?_ | refine blk_alloc ?_ _)); refine blk_put (cs := #[.bool ((rd_T109 l0_1 x11_1).f0), .bool (true), .int .i64 ((rd_T109 l0_1 x11_1).f2.f0), .int .i64 ((rd_T109 l0_1 x11_1).f2.f1), .int .i64 ((rd_T109 l0_1 x11_1).f2.f2), .int .i64 ((rd_T109 l0_1 x11_1).f2.f3), .int .i64 0, .int .i64 0, .int .i64 0, .int .i64 0, .bool false]) ?_ 6 _ rfl; (with_reducible repeat (first | refine blk_drewN ?_ _ | refine blk_drew ?_ | refine blk_alloc ?_ _)); refine blk_put (cs := #[.bool ((rd_T109 l0_1 x11_1).f0), .bool (true), .int .i64 ((rd_T109 l0_1 x11_1).f2.f0), .int .i64 ((rd_T109 l0_1 x11_1).f2.f1), .int .i64 ((rd_T109 l0_1 x11_1).f2.f2), .int .i64 0, .int .i64 0, .int .i64 0, .int .i64 0, .int .i64 0, .bool false]) ?_ 5 _ rfl; (with_reducible repeat (first | refine blk_drewN ?_ _ | refine blk_drew ?_ | refine blk_alloc ?_ _)); refine blk_put (cs := #[.bool ((rd_T109 l0_1 x11_1).f0), .bool (true), .int .i64 ((rd_T109 l0_1 x11_1).f2.f0), .int .i64 ((rd_T109 l0_1 x11_1).f2.f1), .int .i64 0, .int .i64 0, .int .i64 0, .int .i64 0, .int .i64 0, .int .i64 0, .bool false]) ?_ 4 _ rfl; (with_reducible repeat (first | refine blk_drewN ?_ _ | refine blk_drew ?_ | refine blk_alloc ?_ _)); refine blk_put (cs := #[.bool ((rd_T109 l0_1 x11_1).f0), .bool (true), .int .i64 ((rd_T109 l0_1 x11_1).f2.f0), .int .i64 0, .int .i64 0, .int .i64 0, .int .i64 0, .int .i64 0, .int .i64 0, .int .i64 0, .bool false]) ?_ 3 _ rfl; (with_reducible repeat (first | refine blk_drewN ?_ _ | refine blk_drew ?_ | refine blk_alloc ?_ _)); refine blk_put (cs := #[.bool ((rd_T109 l0_1 x11_1).f0), .bool (true), .int .i64 0, .int .i64 0, .int .i64 0, .int .i64 0, .int .i64 0, .int .i64 0, .int .i64 0, .int .i64 0, .bool false]) ?_ 2 _ rfl; (with_reducible repeat (first | refine blk_drewN ?_ _ | refine blk_drew ?_ | refine blk_alloc ?_ _)); refine blk_put (cs := #[.bool ((rd_T109 l0_1 x11_1).f0), .bool false, .int .i64 0, .int .i64 0, .int .i64 0, .int .i64 0, .int .i64 0, .int .i64 0, .int .i64 0, .int .i64 0, .bool false]) ?_ 1 _ rfl; (with_reducible repeat (first | refine blk_drewN ?_ _ | refine blk_drew ?_ | refine blk_alloc ?_ _)); refine blk_put (cs := #[.bool false, .bool false, .int .i64 0, .int .i64 0, .int .i64 0, .int .i64 0, .int .i64 0, .int .i64 0, .int .i64 0, .int .i64 0, .bool false]) ?_ 0 _ rfl; (with_reducible repeat (first | refine blk_drewN ?_ _ | refine blk_drew ?_ | refine blk_alloc ?_ _)); exact BK220.out⟩
     have n2_ : Aside0 (Below w.heap.size w (((((((((((w8.setCell ⟨gb220, 0, none⟩ (.bool ((rd_T109 l0_1 x11_1).f0))).setCell ⟨gb220, 1, none⟩ (.bool (true))).setCell ⟨gb220, 2, none⟩ (.int .i64 ((rd_T109 l0_1 x11_1).f2.f0))).setCell ⟨gb220, 3, none⟩ (.int .i64 ((rd_T109 l0_1 x11_1).f2.f1))).setCell ⟨gb220, 4, none⟩ (.int .i64 ((rd_T109 l0_1 x11_1).f2.f2))).setCell ⟨gb220, 5, none⟩ (.int .i64 ((rd_T109 l0_1 x11_1).f2.f3))).setCell ⟨gb220, 6, none⟩ (.int .i64 ((rd_T109 l0_1 x11_1).f3))).setCell ⟨gb220, 7, none⟩ (.int .i64 ((rd_T109 l0_1 x11_1).f4))).setCell ⟨gb220, 8, none⟩ (.int .i64 ((rd_T109 l0_1 x11_1).f5))).setCell ⟨gb220, 9, none⟩ (.int .i64 ((rd_T109 l0_1 x11_1).f6))).setCell ⟨gb220, 10, none⟩ (.bool ((rd_T109 l0_1 x11_1).f7)))) := ⟨by repeat (first | (with_reducible first | exact HB.out | apply below_alloc | apply pw_below_drewN | apply below_drew1 | refine below_set ?_ GE218.out | refine below_set ?_ GE220.out) | exact HB.out)⟩
     (try clear BK218)
     (try clear BK220)
     (try clear HB)
     generalize (((((((((((w8.setCell ⟨gb220, 0, none⟩ (.bool ((rd_T109 l0_1 x11_1).f0))).setCell ⟨gb220, 1, none⟩ (.bool (true))).setCell ⟨gb220, 2, none⟩ (.int .i64 ((rd_T109 l0_1 x11_1).f2.f0))).setCell ⟨gb220, 3, none⟩ (.int .i64 ((rd_T109 l0_1 x11_1).f2.f1))).setCell ⟨gb220, 4, none⟩ (.int .i64 ((rd_T109 l0_1 x11_1).f2.f2))).setCell ⟨gb220, 5, none⟩ (.int .i64 ((rd_T109 l0_1 x11_1).f2.f3))).setCell ⟨gb220, 6, none⟩ (.int .i64 ((rd_T109 l0_1 x11_1).f3))).setCell ⟨gb220, 7, none⟩ (.int .i64 ((rd_T109 l0_1 x11_1).f4))).setCell ⟨gb220, 8, none⟩ (.int .i64 ((rd_T109 l0_1 x11_1).f5))).setCell ⟨gb220, 9, none⟩ (.int .i64 ((rd_T109 l0_1 x11_1).f6))).setCell ⟨gb220, 10, none⟩ (.bool ((rd_T109 l0_1 x11_1).f7))) = w20 at n0_ n1_ n2_ ⊢
     have BK218 := n0_
     have BK220 := n1_
     have HB := n2_
     clear n0_ n1_ n2_
     have n0_ := aM (blk_drew BK218.out)
     have n1_ := aM (blk_drew BK220.out)
     have n2_ := aM (below_drew1 HB.out)
     clear BK218
     clear BK220
     clear HB
     have BK218 := n0_
     have BK220 := n1_
     have HB := n2_
     clear n0_ n1_ n2_
     refine start_ (n := 34) (S := fun w' => w'.cell? ⟨gb220, 0, none⟩ = some (.bool ((rd_T109 l0_1 x11_1).f0)) ∧ w'.cell? ⟨gb220, 1, none⟩ = some (.bool true) ∧ w'.cell? ⟨gb220, 2, none⟩ = some (.int .i64 ((rd_T109 l0_1 x11_1).f2.f0)) ∧ w'.cell? ⟨gb220, 3, none⟩ = some (.int .i64 ((rd_T109 l0_1 x11_1).f2.f1)) ∧ w'.cell? ⟨gb220, 4, none⟩ = some (.int .i64 ((rd_T109 l0_1 x11_1).f2.f2)) ∧ w'.cell? ⟨gb220, 5, none⟩ = some (.int .i64 ((rd_T109 l0_1 x11_1).f2.f3)) ∧ w'.cell? ⟨gb220, 6, none⟩ = some (.int .i64 ((rd_T109 l0_1 x11_1).f3)) ∧ w'.cell? ⟨gb220, 7, none⟩ = some (.int .i64 ((rd_T109 l0_1 x11_1).f4)) ∧ w'.cell? ⟨gb220, 8, none⟩ = some (.int .i64 ((rd_T109 l0_1 x11_1).f5)) ∧ w'.cell? ⟨gb220, 9, none⟩ = some (.int .i64 ((rd_T109 l0_1 x11_1).f6)) ∧ w'.cell? ⟨gb220, 10, none⟩ = some (.bool ((rd_T109 l0_1 x11_1).f7)) ∧ w'.cell? ⟨gb, 0, none⟩ = some (.int .i64 a0_0) ∧ w'.cell? ⟨gb, 1, none⟩ = some (.slice (some ad219) l0_1.length c0_1)) (ds := []) #[U,U,U,U,U,U,U,U,U,U,U,U,U,U,U,U,U,U,U,U,U,U,U,U,U,U,U,U,U,U,U,U,U,U] (by kernel_rfl) rfl rfl ⟨(blk_cell BK220.out 0).trans rfl, (blk_cell BK220.out 1).trans rfl, (blk_cell BK220.out 2).trans rfl, (blk_cell BK220.out 3).trans rfl, (blk_cell BK220.out 4).trans rfl, (blk_cell BK220.out 5).trans rfl, (blk_cell BK220.out 6).trans rfl, (blk_cell BK220.out 7).trans rfl, (blk_cell BK220.out 8).trans rfl, (blk_cell BK220.out 9).trans rfl, (blk_cell BK220.out 10).trans rfl, (blk_cell BK218.out 0).trans rfl, (blk_cell BK218.out 1).trans rfl⟩ (fun hHeld => ?_); refine with_tabW impl_Bridge_rootPort.tab5 impl_Bridge_rootPort.bits5 (fun HT_ HW_ => ?_)
     generalize w20.drew = w21 at BK218 BK220 HB hHeld ⊢
     refine pure_ (i := 0) (N := some 16) (v := ?_) (a' := ?_) #[Y,U,U,U,U,U,U,U,U,U,U,U,U,U,U,U,U,U,U,U,U,U,U,U,U,U,U,U,U,U,U,U,U,U] rfl rfl (any_of HT_.out (by kernel_rfl)) (fun _ _ _ h => h) (Or.inl ⟨by rfl, ?_⟩) ?_ ?_
     rotate_left
     ·intro w'
      go_simp
      with_reducible rfl
     rotate_left
     ·simp only [Act.put, sA, sZ, sS, i64_w, i32_w]
      rfl
     refine take_ (i := 1) (N := some 17) (v := ?_) (a' := ?_) #[Y,Y,U,U,U,U,U,U,U,U,U,U,U,U,U,U,U,U,U,U,U,U,U,U,U,U,U,U,U,U,U,U,U,U] rfl rfl (take_ofW HT_.out HW_.out (by kernel_rfl)) (fun _ _ _ h => h) (Or.inl ⟨by rfl, ?_⟩) hHeld ?_ ?_
     rotate_left
     ·rintro w' ⟨s0, s1, s2, s3, s4, s5, s6, s7, s8, s9, s10, s11, s12⟩
      go_simp
      with_reducible rfl
     rotate_left
     ·simp only [Act.put, sA, sZ, sS, i64_w, i32_w]
      rfl
     refine pure_ (i := 2) (N := some 18) (v := ?_) (a' := ?_) #[Y,Y,Y,U,U,U,U,U,U,U,U,U,U,U,U,U,U,U,U,U,U,U,U,U,U,U,U,U,U,U,U,U,U,U] rfl rfl (any_of HT_.out (by kernel_rfl)) (fun _ _ _ h => h) (Or.inl ⟨by rfl, ?_⟩) ?_ ?_
     rotate_left
     ·intro w'
      go_simp
      with_reducible rfl
     rotate_left
     ·simp only [Act.put, sA, sZ, sS, i64_w, i32_w]
      rfl
     refine pure_ (i := 3) (N := some 19) (v := ?_) (a' := ?_) #[Y,Y,Y,Y,U,U,U,U,U,U,U,U,U,U,U,U,U,U,U,U,U,U,U,U,U,U,U,U,U,U,U,U,U,U] rfl rfl (any_of HT_.out (by kernel_rfl)) (fun _ _ _ h => h) (Or.inl ⟨by rfl, ?_⟩) ?_ ?_
     rotate_left
     ·intro w'
      go_simp
      with_reducible rfl
     rotate_left
     ·simp only [Act.put, sA, sZ, sS, i64_w, i32_w]
      rfl
     refine pure_ (i := 4) (N := some 20) (v := ?_) (a' := ?_) #[Y,Y,Y,Y,Y,U,U,U,U,U,U,U,U,U,U,U,U,U,U,U,U,U,U,U,U,U,U,U,U,U,U,U,U,U] rfl rfl (any_of HT_.out (by kernel_rfl)) (fun _ _ _ h => h) (Or.inl ⟨by rfl, ?_⟩) ?_ ?_
     rotate_left
     ·intro w'
      go_simp
      with_reducible rfl
     rotate_left
     ·simp only [Act.put, sA, sZ, sS, i64_w, i32_w]
      rfl
     refine pure_ (i := 5) (N := some 21) (v := ?_) (a' := ?_) #[Y,Y,Y,Y,Y,Y,U,U,U,U,U,U,U,U,U,U,U,U,U,U,U,U,U,U,U,U,U,U,U,U,U,U,U,U] rfl rfl (any_of HT_.out (by kernel_rfl)) (fun _ _ _ h => h) (Or.inl ⟨by rfl, ?_⟩) ?_ ?_
     rotate_left
     ·intro w'
      go_simp
      with_reducible rfl
     rotate_left
     ·simp only [Act.put, sA, sZ, sS, i64_w, i32_w]
      rfl
     refine pure_ (i := 7) (N := some 23) (v := ?_) (a' := ?_) #[Y,Y,Y,Y,Y,Y,U,Y,U,U,U,U,U,U,U,U,U,U,U,U,U,U,U,U,U,U,U,U,U,U,U,U,U,U] rfl rfl (any_of HT_.out (by kernel_rfl)) (fun _ _ _ h => h) (Or.inl ⟨by rfl, ?_⟩) ?_ ?_
     rotate_left
     ·intro w'
      go_simp
      with_reducible rfl
     rotate_left
     ·simp only [Act.put, sA, sZ, sS, i64_w, i32_w]
      rfl
     refine pure_ (i := 8) (N := some 24) (v := ?_) (a' := ?_) #[Y,Y,Y,Y,Y,Y,U,Y,Y,U,U,U,U,U,U,U,U,U,U,U,U,U,U,U,U,U,U,U,U,U,U,U,U,U] rfl rfl (any_of HT_.out (by kernel_rfl)) (fun _ _ _ h => h) (Or.inl ⟨by rfl, ?_⟩) ?_ ?_
     rotate_left
     ·intro w'
      go_simp
      with_reducible rfl
     rotate_left
     ·simp only [Act.put, sA, sZ, sS, i64_w, i32_w]
      rfl
     refine pure_ (i := 9) (N := some 25) (v := ?_) (a' := ?_) #[Y,Y,Y,Y,Y,Y,U,Y,Y,Y,U,U,U,U,U,U,U,U,U,U,U,U,U,U,U,U,U,U,U,U,U,U,U,U] rfl rfl (any_of HT_.out (by kernel_rfl)) (fun _ _ _ h => h) (Or.inl ⟨by rfl, ?_⟩) ?_ ?_
     rotate_left
     ·intro w'
      go_simp
      with_reducible rfl
     rotate_left
     ·simp only [Act.put, sA, sZ, sS, i64_w, i32_w]
      rfl
     refine take_ (i := 6) (N := some 22) (v := ?_) (a' := ?_) #[Y,Y,Y,Y,Y,Y,Y,Y,Y,Y,U,U,U,U,U,U,U,U,U,U,U,U,U,U,U,U,U,U,U,U,U,U,U,U] rfl rfl (take_ofW HT_.out HW_.out (by kernel_rfl)) (fun _ _ _ h => h) (Or.inl ⟨by rfl, ?_⟩) hHeld ?_ ?_
     rotate_left
     ·rintro w' ⟨s0, s1, s2, s3, s4, s5, s6, s7, s8, s9, s10, s11, s12⟩
      go_simp
      with_reducible rfl
     rotate_left
     ·simp only [Act.put, sA, sZ, sS, i64_w, i32_w]
      rfl
     refine take_ (i := 10) (N := some 26) (v := ?_) (a' := ?_) #[Y,Y,Y,Y,Y,Y,Y,Y,Y,Y,Y,U,U,U,U,U,U,U,U,U,U,U,U,U,U,U,U,U,U,U,U,U,U,U] rfl rfl (take_ofW HT_.out HW_.out (by kernel_rfl)) (fun _ _ _ h => h) (Or.inl ⟨by rfl, ?_⟩) hHeld ?_ ?_
     rotate_left
     ·rintro w' ⟨s0, s1, s2, s3, s4, s5, s6, s7, s8, s9, s10, s11, s12⟩
      go_simp
      with_reducible rfl
     rotate_left
     ·simp only [Act.put, sA, sZ, sS, i64_w, i32_w]
      rfl
     refine pure_ (i := 11) (N := some 27) (v := ?_) (a' := ?_) #[Y,Y,Y,Y,Y,Y,Y,Y,Y,Y,Y,Y,U,U,U,U,U,U,U,U,U,U,U,U,U,U,U,U,U,U,U,U,U,U] rfl rfl (any_of HT_.out (by kernel_rfl)) (fun _ _ _ h => h) (Or.inl ⟨by rfl, ?_⟩) ?_ ?_
     rotate_left
     ·intro w'
      go_simp
      with_reducible rfl
     rotate_left
     ·simp only [Act.put, sA, sZ, sS, i64_w, i32_w]
      rfl
     refine pure_ (i := 12) (N := some 28) (v := ?_) (a' := ?_) #[Y,Y,Y,Y,Y,Y,Y,Y,Y,Y,Y,Y,Y,U,U,U,U,U,U,U,U,U,U,U,U,U,U,U,U,U,U,U,U,U] rfl rfl (any_of HT_.out (by kernel_rfl)) (fun _ _ _ h => h) (Or.inl ⟨by rfl, ?_⟩) ?_ ?_
     rotate_left
     ·intro w'
      go_simp
      with_reducible rfl
     rotate_left
     ·simp only [Act.put, sA, sZ, sS, i64_w, i32_w]
      rfl
     refine pure_ (i := 13) (N := some 29) (v := ?_) (a' := ?_) #[Y,Y,Y,Y,Y,Y,Y,Y,Y,Y,Y,Y,Y,Y,U,U,U,U,U,U,U,U,U,U,U,U,U,U,U,U,U,U,U,U] rfl rfl (any_of HT_.out (by kernel_rfl)) (fun _ _ _ h => h) (Or.inl ⟨by rfl, ?_⟩) ?_ ?_
     rotate_left
     ·intro w'
      go_simp
      with_reducible rfl
     rotate_left
     ·simp only [Act.put, sA, sZ, sS, i64_w, i32_w]
      rfl
     refine pure_ (i := 14) (N := some 30) (v := ?_) (a' := ?_) #[Y,Y,Y,Y,Y,Y,Y,Y,Y,Y,Y,Y,Y,Y,Y,U,U,U,U,U,U,U,U,U,U,U,U,U,U,U,U,U,U,U] rfl rfl (any_of HT_.out (by kernel_rfl)) (fun _ _ _ h => h) (Or.inl ⟨by rfl, ?_⟩) ?_ ?_
     rotate_left
     ·intro w'
      go_simp
      with_reducible rfl
     rotate_left
     ·simp only [Act.put, sA, sZ, sS, i64_w, i32_w]
      rfl
     refine pure_ (i := 15) (N := some 31) (v := ?_) (a' := ?_) #[Y,Y,Y,Y,Y,Y,Y,Y,Y,Y,Y,Y,Y,Y,Y,Y,U,U,U,U,U,U,U,U,U,U,U,U,U,U,U,U,U,U] rfl rfl (any_of HT_.out (by kernel_rfl)) (fun _ _ _ h => h) (Or.inl ⟨by rfl, ?_⟩) ?_ ?_
     rotate_left
     ·intro w'
      go_simp
      with_reducible rfl
     rotate_left
     ·simp only [Act.put, sA, sZ, sS, i64_w, i32_w]
      rfl
     refine pure_ (i := 17) (N := some 33) (v := ?_) (a' := ?_) #[Y,Y,Y,Y,Y,Y,Y,Y,Y,Y,Y,Y,Y,Y,Y,Y,U,Y,U,U,U,U,U,U,U,U,U,U,U,U,U,U,U,U] rfl rfl (any_of HT_.out (by kernel_rfl)) (fun _ _ _ h => h) (Or.inl ⟨by rfl, ?_⟩) ?_ ?_
     rotate_left
     ·intro w'
      go_simp
      with_reducible rfl
     rotate_left
     ·simp only [Act.put, sA, sZ, sS, i64_w, i32_w]
      rfl
     refine pure_ (i := 18) (N := some 34) (v := ?_) (a' := ?_) #[Y,Y,Y,Y,Y,Y,Y,Y,Y,Y,Y,Y,Y,Y,Y,Y,U,Y,Y,U,U,U,U,U,U,U,U,U,U,U,U,U,U,U] rfl rfl (any_of HT_.out (by kernel_rfl)) (fun _ _ _ h => h) (Or.inl ⟨by rfl, ?_⟩) ?_ ?_
     rotate_left
     ·intro w'
      go_simp
      with_reducible rfl
     rotate_left
     ·simp only [Act.put, sA, sZ, sS, i64_w, i32_w]
      rfl
     refine pure_ (i := 19) (N := some 35) (v := ?_) (a' := ?_) #[Y,Y,Y,Y,Y,Y,Y,Y,Y,Y,Y,Y,Y,Y,Y,Y,U,Y,Y,Y,U,U,U,U,U,U,U,U,U,U,U,U,U,U] rfl rfl (any_of HT_.out (by kernel_rfl)) (fun _ _ _ h => h) (Or.inl ⟨by rfl, ?_⟩) ?_ ?_
     rotate_left
     ·intro w'
      go_simp
      with_reducible rfl
     rotate_left
     ·simp only [Act.put, sA, sZ, sS, i64_w, i32_w]
      rfl
     refine take_ (i := 16) (N := some 32) (v := ?_) (a' := ?_) #[Y,Y,Y,Y,Y,Y,Y,Y,Y,Y,Y,Y,Y,Y,Y,Y,Y,Y,Y,Y,U,U,U,U,U,U,U,U,U,U,U,U,U,U] rfl rfl (take_ofW HT_.out HW_.out (by kernel_rfl)) (fun _ _ _ h => h) (Or.inl ⟨by rfl, ?_⟩) hHeld ?_ ?_
     rotate_left
     ·rintro w' ⟨s0, s1, s2, s3, s4, s5, s6, s7, s8, s9, s10, s11, s12⟩
      go_simp
      with_reducible rfl
     rotate_left
     ·simp only [Act.put, sA, sZ, sS, i64_w, i32_w]
      rfl
     refine take_ (i := 20) (N := some 36) (v := ?_) (a' := ?_) #[Y,Y,Y,Y,Y,Y,Y,Y,Y,Y,Y,Y,Y,Y,Y,Y,Y,Y,Y,Y,Y,U,U,U,U,U,U,U,U,U,U,U,U,U] rfl rfl (take_ofW HT_.out HW_.out (by kernel_rfl)) (fun _ _ _ h => h) (Or.inl ⟨by rfl, ?_⟩) hHeld ?_ ?_
     rotate_left
     ·rintro w' ⟨s0, s1, s2, s3, s4, s5, s6, s7, s8, s9, s10, s11, s12⟩
      go_simp
      with_reducible rfl
     rotate_left
     ·simp only [Act.put, sA, sZ, sS, i64_w, i32_w]
      rfl
     refine pure_ (i := 21) (N := some 37) (v := ?_) (a' := ?_) #[Y,Y,Y,Y,Y,Y,Y,Y,Y,Y,Y,Y,Y,Y,Y,Y,Y,Y,Y,Y,Y,Y,U,U,U,U,U,U,U,U,U,U,U,U] rfl rfl (any_of HT_.out (by kernel_rfl)) (fun _ _ _ h => h) (Or.inl ⟨by rfl, ?_⟩) ?_ ?_
     rotate_left
     ·intro w'
      go_simp
      with_reducible rfl
     rotate_left
     ·simp only [Act.put, sA, sZ, sS, i64_w, i32_w]
      rfl
     refine pure_ (i := 22) (N := some 38) (v := ?_) (a' := ?_) #[Y,Y,Y,Y,Y,Y,Y,Y,Y,Y,Y,Y,Y,Y,Y,Y,Y,Y,Y,Y,Y,Y,Y,U,U,U,U,U,U,U,U,U,U,U] rfl rfl (any_of HT_.out (by kernel_rfl)) (fun _ _ _ h => h) (Or.inl ⟨by rfl, ?_⟩) ?_ ?_
     rotate_left
     ·intro w'
      go_simp
      with_reducible rfl
     rotate_left
     ·simp only [Act.put, sA, sZ, sS, i64_w, i32_w]
      rfl
     refine pure_ (i := 23) (N := some 39) (v := ?_) (a' := ?_) #[Y,Y,Y,Y,Y,Y,Y,Y,Y,Y,Y,Y,Y,Y,Y,Y,Y,Y,Y,Y,Y,Y,Y,Y,U,U,U,U,U,U,U,U,U,U] rfl rfl (any_of HT_.out (by kernel_rfl)) (fun _ _ _ h => h) (Or.inl ⟨by rfl, ?_⟩) ?_ ?_
     rotate_left
     ·intro w'
      go_simp
      with_reducible rfl
     rotate_left
     ·simp only [Act.put, sA, sZ, sS, i64_w, i32_w]
      rfl
     refine pure_ (i := 24) (N := some 40) (v := ?_) (a' := ?_) #[Y,Y,Y,Y,Y,Y,Y,Y,Y,Y,Y,Y,Y,Y,Y,Y,Y,Y,Y,Y,Y,Y,Y,Y,Y,U,U,U,U,U,U,U,U,U] rfl rfl (any_of HT_.out (by kernel_rfl)) (fun _ _ _ h => h) (Or.inl ⟨by rfl, ?_⟩) ?_ ?_
     rotate_left
     ·intro w'
      go_simp
      with_reducible rfl
     rotate_left
     ·simp only [Act.put, sA, sZ, sS, i64_w, i32_w]
      rfl
     refine pure_ (i := 25) (N := some 41) (v := ?_) (a' := ?_) #[Y,Y,Y,Y,Y,Y,Y,Y,Y,Y,Y,Y,Y,Y,Y,Y,Y,Y,Y,Y,Y,Y,Y,Y,Y,Y,U,U,U,U,U,U,U,U] rfl rfl (any_of HT_.out (by kernel_rfl)) (fun _ _ _ h => h) (Or.inl ⟨by rfl, ?_⟩) ?_ ?_
     rotate_left
     ·intro w'
      go_simp
      with_reducible rfl
     rotate_left
     ·simp only [Act.put, sA, sZ, sS, i64_w, i32_w]
      rfl
     refine take_ (i := 26) (N := some 42) (v := ?_) (a' := ?_) #[Y,Y,Y,Y,Y,Y,Y,Y,Y,Y,Y,Y,Y,Y,Y,Y,Y,Y,Y,Y,Y,Y,Y,Y,Y,Y,Y,U,U,U,U,U,U,U] rfl rfl (take_ofW HT_.out HW_.out (by kernel_rfl)) (fun _ _ _ h => h) (Or.inl ⟨by rfl, ?_⟩) hHeld ?_ ?_
     rotate_left
     ·rintro w' ⟨s0, s1, s2, s3, s4, s5, s6, s7, s8, s9, s10, s11, s12⟩
      go_simp
      with_reducible rfl
     rotate_left
     ·simp only [Act.put, sA, sZ, sS, i64_w, i32_w]
      rfl
     refine pure_ (i := 27) (N := some 43) (v := ?_) (a' := ?_) #[Y,Y,Y,Y,Y,Y,Y,Y,Y,Y,Y,Y,Y,Y,Y,Y,Y,Y,Y,Y,Y,Y,Y,Y,Y,Y,Y,Y,U,U,U,U,U,U] rfl rfl (any_of HT_.out (by kernel_rfl)) (fun _ _ _ h => h) (Or.inl ⟨by rfl, ?_⟩) ?_ ?_
     rotate_left
     ·intro w'
      go_simp
      with_reducible rfl
     rotate_left
     ·simp only [Act.put, sA, sZ, sS, i64_w, i32_w]
      rfl
     refine pure_ (i := 28) (N := some 44) (v := ?_) (a' := ?_) #[Y,Y,Y,Y,Y,Y,Y,Y,Y,Y,Y,Y,Y,Y,Y,Y,Y,Y,Y,Y,Y,Y,Y,Y,Y,Y,Y,Y,Y,U,U,U,U,U] rfl rfl (any_of HT_.out (by kernel_rfl)) (fun _ _ _ h => h) (Or.inl ⟨by rfl, ?_⟩) ?_ ?_
     rotate_left
     ·intro w'
      go_simp
      with_reducible rfl
     rotate_left
     ·simp only [Act.put, sA, sZ, sS, i64_w, i32_w]
      rfl
     refine pure_ (i := 29) (N := some 45) (v := ?_) (a' := ?_) #[Y,Y,Y,Y,Y,Y,Y,Y,Y,Y,Y,Y,Y,Y,Y,Y,Y,Y,Y,Y,Y,Y,Y,Y,Y,Y,Y,Y,Y,Y,U,U,U,U] rfl rfl (any_of HT_.out (by kernel_rfl)) (fun _ _ _ h => h) (Or.inl ⟨by rfl, ?_⟩) ?_ ?_
     rotate_left
     ·intro w'
      go_simp
      with_reducible rfl
     rotate_left
     ·simp only [Act.put, sA, sZ, sS, i64_w, i32_w]
      rfl
     refine pure_ (i := 30) (N := some 46) (v := undef) (a' := ?_) #[Y,Y,Y,Y,Y,Y,Y,Y,Y,Y,Y,Y,Y,Y,Y,Y,Y,Y,Y,Y,Y,Y,Y,Y,Y,Y,Y,Y,Y,Y,Y,U,U,U] rfl rfl (any_of HT_.out (by kernel_rfl)) (fun _ _ _ h => h) (Or.inr ⟨by rfl, rfl⟩) ?_ ?_
     rotate_left
     ·simp only [Act.put, sA, sZ, sS, i64_w, i32_w]
      rfl
     refine pure_ (i := 31) (N := some 47) (v := undef) (a' := ?_) #[Y,Y,Y,Y,Y,Y,Y,Y,Y,Y,Y,Y,Y,Y,Y,Y,Y,Y,Y,Y,Y,Y,Y,Y,Y,Y,Y,Y,Y,Y,Y,Y,U,U] rfl rfl (any_of HT_.out (by kernel_rfl)) (fun _ _ _ h => h) (Or.inr ⟨by rfl, rfl⟩) ?_ ?_
     rotate_left
     ·simp only [Act.put, sA, sZ, sS, i64_w, i32_w]
      rfl
     refine pure_ (i := 32) (N := some 48) (v := undef) (a' := ?_) #[Y,Y,Y,Y,Y,Y,Y,Y,Y,Y,Y,Y,Y,Y,Y,Y,Y,Y,Y,Y,Y,Y,Y,Y,Y,Y,Y,Y,Y,Y,Y,Y,Y,U] rfl rfl (any_of HT_.out (by kernel_rfl)) (fun _ _ _ h => h) (Or.inr ⟨by rfl, rfl⟩) ?_ ?_
     rotate_left
     ·simp only [Act.put, sA, sZ, sS, i64_w, i32_w]
      rfl
     refine pure_ (i := 33) (N := some 49) (v := ?_) (a' := ?_) #[Y,Y,Y,Y,Y,Y,Y,Y,Y,Y,Y,Y,Y,Y,Y,Y,Y,Y,Y,Y,Y,Y,Y,Y,Y,Y,Y,Y,Y,Y,Y,Y,Y,Y] rfl rfl (any_of HT_.out (by kernel_rfl)) (fun _ _ _ h => h) (Or.inl ⟨by rfl, ?_⟩) ?_ ?_
     rotate_left
     ·intro w'
      go_simp
      with_reducible rfl
     rotate_left
     ·simp only [Act.put, sA, sZ, sS, i64_w, i32_w]
      rfl
     refine done_ (done_of HT_.out (by kernel_rfl)) ?_
     try go_wp2
     go_meet
     case rel => (try rw [← Nbq11.out]); exact ⟨_, (true), (by first | rfl | (simp; done) | (simp [*]; done)), H', ⟨by have := HK1.out; first | omega | exact Nat.le_refl _⟩, ⟨by (with_reducible repeat (first | refine blk_drewN ?_ _ | refine blk_drew ?_ | refine blk_alloc ?_ _)); exact BK218.out⟩, ⟨by (with_reducible repeat (first | refine blk_drewN ?_ _ | refine blk_drew ?_ | refine blk_alloc ?_ _)); exact BK220.out⟩, ⟨by repeat (first | (with_reducible first | exact HB.out | apply below_alloc | apply pw_below_drewN | apply below_drew1 | refine below_set ?_ GE218.out | refine below_set ?_ GE220.out) | exact HB.out)⟩⟩
    rw [if_neg c19] at H
    have c19b0 : decide (20 ≤ ((rd_T109 l0_1 x11_1).f2.f1)) = false := decide_eq_false c19
    clear c19
    have H' := aM H
    clear H
    try go_wp2
    have n0_ : Aside0 ((((((((((((w8.setCell ⟨gb220, 0, none⟩ (.bool ((rd_T109 l0_1 x11_1).f0))).setCell ⟨gb220, 1, none⟩ (.bool (true))).setCell ⟨gb220, 2, none⟩ (.int .i64 ((rd_T109 l0_1 x11_1).f2.f0))).setCell ⟨gb220, 3, none⟩ (.int .i64 ((rd_T109 l0_1 x11_1).f2.f1))).setCell ⟨gb220, 4, none⟩ (.int .i64 ((rd_T109 l0_1 x11_1).f2.f2))).setCell ⟨gb220, 5, none⟩ (.int .i64 ((rd_T109 l0_1 x11_1).f2.f3))).setCell ⟨gb220, 6, none⟩ (.int .i64 ((rd_T109 l0_1 x11_1).f3))).setCell ⟨gb220, 7, none⟩ (.int .i64 ((rd_T109 l0_1 x11_1).f4))).setCell ⟨gb220, 8, none⟩ (.int .i64 ((rd_T109 l0_1 x11_1).f5))).setCell ⟨gb220, 9, none⟩ (.int .i64 ((rd_T109 l0_1 x11_1).f6))).setCell ⟨gb220, 10, none⟩ (.bool ((rd_T109 l0_1 x11_1).f7))).heap[gb]? = some (.cells #[.int .i64 a0_0, .slice (some ad219) l0_1.length c0_1] 66 (0, 0))) := ⟨by (with_reducible repeat (first | refine blk_drewN ?_ _ | refine blk_drew ?_ | refine blk_alloc ?_ _)); refine blk_far ?_ NB218_220.out _; (with_reducible repeat (first | refine blk_drewN ?_ _ | refine blk_drew ?_ | refine blk_alloc ?_ _)); refine blk_far ?_ NB218_220.out _; (with_reducible repeat (first | refine blk_drewN ?_ _ | refine blk_drew ?_ | refine blk_alloc ?_ _)); refine blk_far ?_ NB218_220.out _; (with_reducible repeat (first | refine blk_drewN ?_ _ | refine blk_drew ?_ | refine blk_alloc ?_ _)); refine blk_far ?_ NB218_220.out _; (with_reducible repeat (first | refine blk_drewN ?_ _ | refine blk_drew ?_ | refine blk_alloc ?_ _)); refine blk_far ?_ NB218_220.out _; (with_reducible repeat (first | refine blk_drewN ?_ _ | refine blk_drew ?_ | refine blk_alloc ?_ _)); refine blk_far ?_ NB218_220.out _; (with_reducible repeat (first | refine blk_drewN ?_ _ | refine blk_drew ?_ | refine blk_alloc ?_ _)); refine blk_far ?_ NB218_220.out _; (with_reducible repeat (first | refine blk_drewN ?_ _ | refine blk_drew ?_ | refine blk_alloc ?_ _)); refine blk_far ?_ NB218_220.out _; (with_reducible repeat (first | refine blk_drewN ?_ _ | refine blk_drew ?_ | refine blk_alloc ?_ _)); refine blk_far ?_ NB218_220.out _; (with_reducible repeat (first | refine blk_drewN ?_ _ | refine blk_drew ?_ | refine blk_alloc ?_ _)); refine blk_far ?_ NB218_220.out _; (with_reducible repeat (first | refine blk_drewN ?_ _ | refine blk_drew ?_ | refine blk_alloc ?_ _)); refine blk_far ?_ NB218_220.out _; (with_reducible repeat (first | refine blk_drewN ?_ _ | refine blk_drew ?_ | refine blk_alloc ?_ _)); exact BK218.out⟩
    have n1_ : Aside0 ((((((((((((w8.setCell ⟨gb220, 0, none⟩ (.bool ((rd_T109 l0_1 x11_1).f0))).setCell ⟨gb220, 1, none⟩ (.bool (true))).setCell ⟨gb220, 2, none⟩ (.int .i64 ((rd_T109 l0_1 x11_1).f2.f0))).setCell ⟨gb220, 3, none⟩ (.int .i64 ((rd_T109 l0_1 x11_1).f2.f1))).setCell ⟨gb220, 4, none⟩ (.int .i64 ((rd_T109 l0_1 x11_1).f2.f2))).setCell ⟨gb220, 5, none⟩ (.int .i64 ((rd_T109 l0_1 x11_1).f2.f3))).setCell ⟨gb220, 6, none⟩ (.int .i64 ((rd_T109 l0_1 x11_1).f3))).setCell ⟨gb220, 7, none⟩ (.int .i64 ((rd_T109 l0_1 x11_1).f4))).setCell ⟨gb220, 8, none⟩ (.int .i64 ((rd_T109 l0_1 x11_1).f5))).setCell ⟨gb220, 9, none⟩ (.int .i64 ((rd_T109 l0_1 x11_1).f6))).setCell ⟨gb220, 10, none⟩ (.bool ((rd_T109 l0_1 x11_1).f7))).heap[gb220]? = some (.cells #[.bool ((rd_T109 l0_1 x11_1).f0), .bool true, .int .i64 ((rd_T109 l0_1 x11_1).f2.f0), .int .i64 ((rd_T109 l0_1 x11_1).f2.f1), .int .i64 ((rd_T109 l0_1 x11_1).f2.f2), .int .i64 ((rd_T109 l0_1 x11_1).f2.f3), .int .i64 ((rd_T109 l0_1 x11_1).f3), .int .i64 ((rd_T109 l0_1 x11_1).f4), .int .i64 ((rd_T109 l0_1 x11_1).f5), .int .i64 ((rd_T109 l0_1 x11_1).f6), .bool ((rd_T109 l0_1 x11_1).f7)] 109 (0, 0))) := ⟨by (with_reducible repeat (first | refine blk_drewN ?_ _ | refine blk_drew ?_ | refine blk_alloc ?_ _)); refine blk_put (cs := #[.bool ((rd_T109 l0_1 x11_1).f0), .bool (true), .int .i64 ((rd_T109 l0_1 x11_1).f2.f0), .int .i64 ((rd_T109 l0_1 x11_1).f2.f1), .int .i64 ((rd_T109 l0_1 x11_1).f2.f2), .int .i64 ((rd_T109 l0_1 x11_1).f2.f3), .int .i64 ((rd_T109 l0_1 x11_1).f3), .int .i64 ((rd_T109 l0_1 x11_1).f4), .int .i64 ((rd_T109 l0_1 x11_1).f5), .int .i64 ((rd_T109 l0_1 x11_1).f6), .bool false]) ?_ 10 _ rfl; (with_reducible repeat (first | refine blk_drewN ?_ _ | refine blk_drew ?_ | refine blk_alloc ?_ _)); refine blk_put (cs := #[.bool ((rd_T109 l0_1 x11_1).f0), .bool (true), .int .i64 ((rd_T109 l0_1 x11_1).f2.f0), .int .i64 ((rd_T109 l0_1 x11_1).f2.f1), .int .i64 ((rd_T109 l0_1 x11_1).f2.f2), .int .i64 ((rd_T109 l0_1 x11_1).f2.f3), .int .i64 ((rd_T109 l0_1 x11_1).f3), .int .i64 ((rd_T109 l0_1 x11_1).f4), .int .i64 ((rd_T109 l0_1 x11_1).f5), .int .i64 0, .bool false]) ?_ 9 _ rfl; (with_reducible repeat (first | refine blk_drewN ?_ _ | refine blk_drew ?_ | refine blk_alloc ?_ _)); refine blk_put (cs := #[.bool ((rd_T109 l0_1 x11_1).f0), .bool (true), .int .i64 ((rd_T109 l0_1 x11_1).f2.f0), .int .i64 ((rd_T109 l0_1 x11_1).f2.f1), .int .i64 ((rd_T109 l0_1 x11_1).f2.f2), .int .i64 ((rd_T109 l0_1 x11_1).f2.f3), .int .i64 ((rd_T109 l0_1 x11_1).f3), .int .i64 ((rd_T109 l0_1 x11_1).f4), .int .i64 0, .int .i64 0, .bool false]) ?_ 8 _ rfl; (with_reducible repeat (first | refine blk_drewN ?_ _ | refine blk_drew ?_ | refine blk_alloc ?_ _)); refine blk_put (cs := #[.bool ((rd_T109 l0_1 x11_1).f0), .bool (true), .int .i64 ((rd_T109 l0_1 x11_1).f2.f0), .int .i64 ((rd_T109 l0_1 x11_1).f2.f1), .int .i64 ((rd_T109 l0_1 x11_1).f2.f2), .int .i64 ((rd_T109 l0_1 x11_1).f2.f3), .int .i64 ((rd_T109 l0_1 x11_1).f3), .int .i64 0, .int .i64 0, .int .i64 0, .bool false]) ?_ 7 _ rfl; (with_reducible repeat (first | refine blk_drewN ?_ _ | refine blk_drew ?_ | refine blk_alloc ?_ _)); refine blk_put (cs := #[.bool ((rd_T109 l0_1 x11_1).f0), .bool (true), .int .i64 ((rd_T109 l0_1 x11_1).f2.f0), .int .i64 ((rd_T109 l0_1 x11_1).f2.f1), .int .i64 ((rd_T109 l0_1 x11_1).f2.f2), .int .i64 ((rd_T109 l0_1 x11_1).f2.f3), .int .i64 0, .int .i64 0, .int .i64 0, .int .i64 0, .bool false]) ?_ 6 _ rfl; (with_reducible repeat (first | refine blk_drewN ?_ _ | refine blk_drew ?_ | refine blk_alloc ?_ _)); refine blk_put (cs := #[.bool ((rd_T109 l0_1 x11_1).f0), .bool (true), .int .i64 ((rd_T109 l0_1 x11_1).f2.f0), .int .i64 ((rd_T109 l0_1 x11_1).f2.f1), .int .i64 ((rd_T109 l0_1 x11_1).f2.f2), .int .i64 0, .int .i64 0, .int .i64 0, .int .i64 0, .int .i64 0, .bool false]) ?_ 5 _ rfl; (with_reducible repeat (first | refine blk_drewN ?_ _ | refine blk_drew ?_ | refine blk_alloc ?_ _)); refine blk_put (cs := #[.bool ((rd_T109 l0_1 x11_1).f0), .bool (true), .int .i64 ((rd_T109 l0_1 x11_1).f2.f0), .int .i64 ((rd_T109 l0_1 x11_1).f2.f1), .int .i64 0, .int .i64 0, .int .i64 0, .int .i64 0, .int .i64 0, .int .i64 0, .bool false]) ?_ 4 _ rfl; (with_reducible repeat (first | refine blk_drewN ?_ _ | refine blk_drew ?_ | refine blk_alloc ?_ _)); refine blk_put (cs := #[.bool ((rd_T109 l0_1 x11_1).f0), .bool (true), .int .i64 ((rd_T109 l0_1 x11_1).f2.f0), .int .i64 0, .int .i64 0, .int .i64 0, .int .i64 0, .int .i64 0, .int .i64 0, .int .i64 0, .bool false]) ?_ 3 _ rfl; (with_reducible repeat (first | refine blk_drewN ?_ _ | refine blk_drew ?_ | refine blk_alloc ?_ _)); refine blk_put (cs := #[.bool ((rd_T109 l0_1 x11_1).f0), .bool (true), .int .i64 0, .int .i64 0, .int .i64 0, .int .i64 0, .int .i64 0, .int .i64 0, .int .i64 0, .int .i64 0, .bool false]) ?_ 2 _ rfl; (with_reducible repeat (first | refine blk_drewN ?_ _ | refine blk_drew ?_ | refine blk_alloc ?_ _)); refine blk_put (cs := #[.bool ((rd_T109 l0_1 x11_1).f0), .bool false, .int .i64 0, .int .i64 0, .int .i64 0, .int .i64 0, .int .i64 0, .int .i64 0, .int .i64 0, .int .i64 0, .bool false]) ?_ 1 _ rfl; (with_reducible repeat (first | refine blk_drewN ?_ _ | refine blk_drew ?_ | refine blk_alloc ?_ _)); refine blk_put (cs := #[.bool false, .bool false, .int .i64 0, .int .i64 0, .int .i64 0, .int .i64 0, .int .i64 0, .int .i64 0, .int .i64 0, .int .i64 0, .bool false]) ?_ 0 _ rfl; (with_reducible repeat (first | refine blk_drewN ?_ _ | refine blk_drew ?_ | refine blk_alloc ?_ _)); exact BK220.out⟩
    have n2_ : Aside0 (Below w.heap.size w (((((((((((w8.setCell ⟨gb220, 0, none⟩ (.bool ((rd_T109 l0_1 x11_1).f0))).setCell ⟨gb220, 1, none⟩ (.bool (true))).setCell ⟨gb220, 2, none⟩ (.int .i64 ((rd_T109 l0_1 x11_1).f2.f0))).setCell ⟨gb220, 3, none⟩ (.int .i64 ((rd_T109 l0_1 x11_1).f2.f1))).setCell ⟨gb220, 4, none⟩ (.int .i64 ((rd_T109 l0_1 x11_1).f2.f2))).setCell ⟨gb220, 5, none⟩ (.int .i64 ((rd_T109 l0_1 x11_1).f2.f3))).setCell ⟨gb220, 6, none⟩ (.int .i64 ((rd_T109 l0_1 x11_1).f3))).setCell ⟨gb220, 7, none⟩ (.int .i64 ((rd_T109 l0_1 x11_1).f4))).setCell ⟨gb220, 8, none⟩ (.int .i64 ((rd_T109 l0_1 x11_1).f5))).setCell ⟨gb220, 9, none⟩ (.int .i64 ((rd_T109 l0_1 x11_1).f6))).setCell ⟨gb220, 10, none⟩ (.bool ((rd_T109 l0_1 x11_1).f7)))) := ⟨by repeat (first | (with_reducible first | exact HB.out | apply below_alloc | apply pw_below_drewN | apply below_drew1 | refine below_set ?_ GE218.out | refine below_set ?_ GE220.out) | exact HB.out)⟩
    (try clear BK218)
    (try clear BK220)
    (try clear HB)
    generalize (((((((((((w8.setCell ⟨gb220, 0, none⟩ (.bool ((rd_T109 l0_1 x11_1).f0))).setCell ⟨gb220, 1, none⟩ (.bool (true))).setCell ⟨gb220, 2, none⟩ (.int .i64 ((rd_T109 l0_1 x11_1).f2.f0))).setCell ⟨gb220, 3, none⟩ (.int .i64 ((rd_T109 l0_1 x11_1).f2.f1))).setCell ⟨gb220, 4, none⟩ (.int .i64 ((rd_T109 l0_1 x11_1).f2.f2))).setCell ⟨gb220, 5, none⟩ (.int .i64 ((rd_T109 l0_1 x11_1).f2.f3))).setCell ⟨gb220, 6, none⟩ (.int .i64 ((rd_T109 l0_1 x11_1).f3))).setCell ⟨gb220, 7, none⟩ (.int .i64 ((rd_T109 l0_1 x11_1).f4))).setCell ⟨gb220, 8, none⟩ (.int .i64 ((rd_T109 l0_1 x11_1).f5))).setCell ⟨gb220, 9, none⟩ (.int .i64 ((rd_T109 l0_1 x11_1).f6))).setCell ⟨gb220, 10, none⟩ (.bool ((rd_T109 l0_1 x11_1).f7))) = w22 at n0_ n1_ n2_ ⊢
    have BK218 := n0_
    have BK220 := n1_
    have HB := n2_
    clear n0_ n1_ n2_
    have n0_ := aM (blk_drew BK218.out)
    have n1_ := aM (blk_drew BK220.out)
    have n2_ := aM (below_drew1 HB.out)
    clear BK218
    clear BK220
    clear HB
    have BK218 := n0_
    have BK220 := n1_
    have HB := n2_
    clear n0_ n1_ n2_
    refine start_ (n := 34) (S := fun w' => w'.cell? ⟨gb220, 0, none⟩ = some (.bool ((rd_T109 l0_1 x11_1).f0)) ∧ w'.cell? ⟨gb220, 1, none⟩ = some (.bool true) ∧ w'.cell? ⟨gb220, 2, none⟩ = some (.int .i64 ((rd_T109 l0_1 x11_1).f2.f0)) ∧ w'.cell? ⟨gb220, 3, none⟩ = some (.int .i64 ((rd_T109 l0_1 x11_1).f2.f1)) ∧ w'.cell? ⟨gb220, 4, none⟩ = some (.int .i64 ((rd_T109 l0_1 x11_1).f2.f2)) ∧ w'.cell? ⟨gb220, 5, none⟩ = some (.int .i64 ((rd_T109 l0_1 x11_1).f2.f3)) ∧ w'.cell? ⟨gb220, 6, none⟩ = some (.int .i64 ((rd_T109 l0_1 x11_1).f3)) ∧ w'.cell? ⟨gb220, 7, none⟩ = some (.int .i64 ((rd_T109 l0_1 x11_1).f4)) ∧ w'.cell? ⟨gb220, 8, none⟩ = some (.int .i64 ((rd_T109 l0_1 x11_1).f5)) ∧ w'.cell? ⟨gb220, 9, none⟩ = some (.int .i64 ((rd_T109 l0_1 x11_1).f6)) ∧ w'.cell? ⟨gb220, 10, none⟩ = some (.bool ((rd_T109 l0_1 x11_1).f7)) ∧ w'.cell? ⟨gb, 0, none⟩ = some (.int .i64 a0_0) ∧ w'.cell? ⟨gb, 1, none⟩ = some (.slice (some ad219) l0_1.length c0_1)) (ds := []) #[U,U,U,U,U,U,U,U,U,U,U,U,U,U,U,U,U,U,U,U,U,U,U,U,U,U,U,U,U,U,U,U,U,U] (by kernel_rfl) rfl rfl ⟨(blk_cell BK220.out 0).trans rfl, (blk_cell BK220.out 1).trans rfl, (blk_cell BK220.out 2).trans rfl, (blk_cell BK220.out 3).trans rfl, (blk_cell BK220.out 4).trans rfl, (blk_cell BK220.out 5).trans rfl, (blk_cell BK220.out 6).trans rfl, (blk_cell BK220.out 7).trans rfl, (blk_cell BK220.out 8).trans rfl, (blk_cell BK220.out 9).trans rfl, (blk_cell BK220.out 10).trans rfl, (blk_cell BK218.out 0).trans rfl, (blk_cell BK218.out 1).trans rfl⟩ (fun hHeld => ?_); refine with_tabW impl_Bridge_rootPort.tab5 impl_Bridge_rootPort.bits5 (fun HT_ HW_ => ?_)
    generalize w22.drew = w23 at BK218 BK220 HB hHeld ⊢
    refine pure_ (i := 0) (N := some 16) (v := ?_) (a' := ?_) #[Y,U,U,U,U,U,U,U,U,U,U,U,U,U,U,U,U,U,U,U,U,U,U,U,U,U,U,U,U,U,U,U,U,U] rfl rfl (any_of HT_.out (by kernel_rfl)) (fun _ _ _ h => h) (Or.inl ⟨by rfl, ?_⟩) ?_ ?_
    rotate_left
    ·intro w'
     go_simp
     with_reducible rfl
    rotate_left
    ·simp only [Act.put, sA, sZ, sS, i64_w, i32_w]
     rfl
    refine take_ (i := 1) (N := some 17) (v := ?_) (a' := ?_) #[Y,Y,U,U,U,U,U,U,U,U,U,U,U,U,U,U,U,U,U,U,U,U,U,U,U,U,U,U,U,U,U,U,U,U] rfl rfl (take_ofW HT_.out HW_.out (by kernel_rfl)) (fun _ _ _ h => h) (Or.inl ⟨by rfl, ?_⟩) hHeld ?_ ?_
    rotate_left
    ·rintro w' ⟨s0, s1, s2, s3, s4, s5, s6, s7, s8, s9, s10, s11, s12⟩
     go_simp
     with_reducible rfl
    rotate_left
    ·simp only [Act.put, sA, sZ, sS, i64_w, i32_w]
     rfl
    refine pure_ (i := 2) (N := some 18) (v := ?_) (a' := ?_) #[Y,Y,Y,U,U,U,U,U,U,U,U,U,U,U,U,U,U,U,U,U,U,U,U,U,U,U,U,U,U,U,U,U,U,U] rfl rfl (any_of HT_.out (by kernel_rfl)) (fun _ _ _ h => h) (Or.inl ⟨by rfl, ?_⟩) ?_ ?_
    rotate_left
    ·intro w'
     go_simp
     with_reducible rfl
    rotate_left
    ·simp only [Act.put, sA, sZ, sS, i64_w, i32_w]
     rfl
    refine pure_ (i := 3) (N := some 19) (v := ?_) (a' := ?_) #[Y,Y,Y,Y,U,U,U,U,U,U,U,U,U,U,U,U,U,U,U,U,U,U,U,U,U,U,U,U,U,U,U,U,U,U] rfl rfl (any_of HT_.out (by kernel_rfl)) (fun _ _ _ h => h) (Or.inl ⟨by rfl, ?_⟩) ?_ ?_
    rotate_left
    ·intro w'
     go_simp
     with_reducible rfl
    rotate_left
    ·simp only [Act.put, sA, sZ, sS, i64_w, i32_w]
     rfl
    refine pure_ (i := 4) (N := some 20) (v := ?_) (a' := ?_) #[Y,Y,Y,Y,Y,U,U,U,U,U,U,U,U,U,U,U,U,U,U,U,U,U,U,U,U,U,U,U,U,U,U,U,U,U] rfl rfl (any_of HT_.out (by kernel_rfl)) (fun _ _ _ h => h) (Or.inl ⟨by rfl, ?_⟩) ?_ ?_
    rotate_left
    ·intro w'
     go_simp
     with_reducible rfl
    rotate_left
    ·simp only [Act.put, sA, sZ, sS, i64_w, i32_w]
     rfl
    refine pure_ (i := 5) (N := some 21) (v := ?_) (a' := ?_) #[Y,Y,Y,Y,Y,Y,U,U,U,U,U,U,U,U,U,U,U,U,U,U,U,U,U,U,U,U,U,U,U,U,U,U,U,U] rfl rfl (any_of HT_.out (by kernel_rfl)) (fun _ _ _ h => h) (Or.inl ⟨by rfl, ?_⟩) ?_ ?_
    rotate_left
    ·intro w'
     go_simp
     with_reducible rfl
    rotate_left
    ·simp only [Act.put, sA, sZ, sS, i64_w, i32_w]
     rfl
    refine pure_ (i := 7) (N := some 23) (v := ?_) (a' := ?_) #[Y,Y,Y,Y,Y,Y,U,Y,U,U,U,U,U,U,U,U,U,U,U,U,U,U,U,U,U,U,U,U,U,U,U,U,U,U] rfl rfl (any_of HT_.out (by kernel_rfl)) (fun _ _ _ h => h) (Or.inl ⟨by rfl, ?_⟩) ?_ ?_
    rotate_left
    ·intro w'
     go_simp
     with_reducible rfl
    rotate_left
    ·simp only [Act.put, sA, sZ, sS, i64_w, i32_w]
     rfl
    refine pure_ (i := 8) (N := some 24) (v := ?_) (a' := ?_) #[Y,Y,Y,Y,Y,Y,U,Y,Y,U,U,U,U,U,U,U,U,U,U,U,U,U,U,U,U,U,U,U,U,U,U,U,U,U] rfl rfl (any_of HT_.out (by kernel_rfl)) (fun _ _ _ h => h) (Or.inl ⟨by rfl, ?_⟩) ?_ ?_
    rotate_left
    ·intro w'
     go_simp
     with_reducible rfl
    rotate_left
    ·simp only [Act.put, sA, sZ, sS, i64_w, i32_w]
     rfl
    refine pure_ (i := 9) (N := some 25) (v := ?_) (a' := ?_) #[Y,Y,Y,Y,Y,Y,U,Y,Y,Y,U,U,U,U,U,U,U,U,U,U,U,U,U,U,U,U,U,U,U,U,U,U,U,U] rfl rfl (any_of HT_.out (by kernel_rfl)) (fun _ _ _ h => h) (Or.inl ⟨by rfl, ?_⟩) ?_ ?_
    rotate_left
    ·intro w'
     go_simp
     with_reducible rfl
    rotate_left
    ·simp only [Act.put, sA, sZ, sS, i64_w, i32_w]
     rfl
    refine take_ (i := 6) (N := some 22) (v := ?_) (a' := ?_) #[Y,Y,Y,Y,Y,Y,Y,Y,Y,Y,U,U,U,U,U,U,U,U,U,U,U,U,U,U,U,U,U,U,U,U,U,U,U,U] rfl rfl (take_ofW HT_.out HW_.out (by kernel_rfl)) (fun _ _ _ h => h) (Or.inl ⟨by rfl, ?_⟩) hHeld ?_ ?_
    rotate_left
    ·rintro w' ⟨s0, s1, s2, s3, s4, s5, s6, s7, s8, s9, s10, s11, s12⟩
     go_simp
     with_reducible rfl
    rotate_left
    ·simp only [Act.put, sA, sZ, sS, i64_w, i32_w]
     rfl
    refine take_ (i := 10) (N := some 26) (v := ?_) (a' := ?_) #[Y,Y,Y,Y,Y,Y,Y,Y,Y,Y,Y,U,U,U,U,U,U,U,U,U,U,U,U,U,U,U,U,U,U,U,U,U,U,U] rfl rfl (take_ofW HT_.out HW_.out (by kernel_rfl)) (fun _ _ _ h => h) (Or.inl ⟨by rfl, ?_⟩) hHeld ?_ ?_
    rotate_left
    ·rintro w' ⟨s0, s1, s2, s3, s4, s5, s6, s7, s8, s9, s10, s11, s12⟩
     go_simp
     with_reducible rfl
    rotate_left
    ·simp only [Act.put, sA, sZ, sS, i64_w, i32_w]
     rfl
    refine pure_ (i := 11) (N := some 27) (v := ?_) (a' := ?_) #[Y,Y,Y,Y,Y,Y,Y,Y,Y,Y,Y,Y,U,U,U,U,U,U,U,U,U,U,U,U,U,U,U,U,U,U,U,U,U,U] rfl rfl (any_of HT_.out (by kernel_rfl)) (fun _ _ _ h => h) (Or.inl ⟨by rfl, ?_⟩) ?_ ?_
    rotate_left
    ·intro w'
     go_simp
     with_reducible rfl
    rotate_left
    ·simp only [Act.put, sA, sZ, sS, i64_w, i32_w]
     rfl
    refine pure_ (i := 12) (N := some 28) (v := ?_) (a' := ?_) #[Y,Y,Y,Y,Y,Y,Y,Y,Y,Y,Y,Y,Y,U,U,U,U,U,U,U,U,U,U,U,U,U,U,U,U,U,U,U,U,U] rfl rfl (any_of HT_.out (by kernel_rfl)) (fun _ _ _ h => h) (Or.inl ⟨by rfl, ?_⟩) ?_ ?_
    rotate_left
    ·intro w'
     go_simp
     with_reducible rfl
    rotate_left
    ·simp only [Act.put, sA, sZ, sS, i64_w, i32_w]
     rfl
    refine pure_ (i := 13) (N := some 29) (v := ?_) (a' := ?_) #[Y,Y,Y,Y,Y,Y,Y,Y,Y,Y,Y,Y,Y,Y,U,U,U,U,U,U,U,U,U,U,U,U,U,U,U,U,U,U,U,U] rfl rfl (any_of HT_.out (by kernel_rfl)) (fun _ _ _ h => h) (Or.inl ⟨by rfl, ?_⟩) ?_ ?_
    rotate_left
    ·intro w'
     go_simp
     with_reducible rfl
    rotate_left
    ·simp only [Act.put, sA, sZ, sS, i64_w, i32_w]
     rfl
    refine pure_ (i := 14) (N := some 30) (v := ?_) (a' := ?_) #[Y,Y,Y,Y,Y,Y,Y,Y,Y,Y,Y,Y,Y,Y,Y,U,U,U,U,U,U,U,U,U,U,U,U,U,U,U,U,U,U,U] rfl rfl (any_of HT_.out (by kernel_rfl)) (fun _ _ _ h => h) (Or.inl ⟨by rfl, ?_⟩) ?_ ?_
    rotate_left
    ·intro w'
     go_simp
     with_reducible rfl
    rotate_left
    ·simp only [Act.put, sA, sZ, sS, i64_w, i32_w]
     rfl
    refine pure_ (i := 15) (N := some 31) (v := ?_) (a' := ?_) #[Y,Y,Y,Y,Y,Y,Y,Y,Y,Y,Y,Y,Y,Y,Y,Y,U,U,U,U,U,U,U,U,U,U,U,U,U,U,U,U,U,U] rfl rfl (any_of HT_.out (by kernel_rfl)) (fun _ _ _ h => h) (Or.inl ⟨by rfl, ?_⟩) ?_ ?_
    rotate_left
    ·intro w'
     go_simp
     with_reducible rfl
    rotate_left
    ·simp only [Act.put, sA, sZ, sS, i64_w, i32_w]
     rfl
    refine pure_ (i := 17) (N := some 33) (v := ?_) (a' := ?_) #[Y,Y,Y,Y,Y,Y,Y,Y,Y,Y,Y,Y,Y,Y,Y,Y,U,Y,U,U,U,U,U,U,U,U,U,U,U,U,U,U,U,U] rfl rfl (any_of HT_.out (by kernel_rfl)) (fun _ _ _ h => h) (Or.inl ⟨by rfl, ?_⟩) ?_ ?_
    rotate_left
    ·intro w'
     go_simp
     with_reducible rfl
    rotate_left
    ·simp only [Act.put, sA, sZ, sS, i64_w, i32_w]
     rfl
    refine pure_ (i := 18) (N := some 34) (v := ?_) (a' := ?_) #[Y,Y,Y,Y,Y,Y,Y,Y,Y,Y,Y,Y,Y,Y,Y,Y,U,Y,Y,U,U,U,U,U,U,U,U,U,U,U,U,U,U,U] rfl rfl (any_of HT_.out (by kernel_rfl)) (fun _ _ _ h => h) (Or.inl ⟨by rfl, ?_⟩) ?_ ?_
    rotate_left
    ·intro w'
     go_simp
     with_reducible rfl
    rotate_left
    ·simp only [Act.put, sA, sZ, sS, i64_w, i32_w]
     rfl
    refine pure_ (i := 19) (N := some 35) (v := ?_) (a' := ?_) #[Y,Y,Y,Y,Y,Y,Y,Y,Y,Y,Y,Y,Y,Y,Y,Y,U,Y,Y,Y,U,U,U,U,U,U,U,U,U,U,U,U,U,U] rfl rfl (any_of HT_.out (by kernel_rfl)) (fun _ _ _ h => h) (Or.inl ⟨by rfl, ?_⟩) ?_ ?_
    rotate_left
    ·intro w'
     go_simp
     with_reducible rfl
    rotate_left
    ·simp only [Act.put, sA, sZ, sS, i64_w, i32_w]
     rfl
    refine take_ (i := 16) (N := some 32) (v := ?_) (a' := ?_) #[Y,Y,Y,Y,Y,Y,Y,Y,Y,Y,Y,Y,Y,Y,Y,Y,Y,Y,Y,Y,U,U,U,U,U,U,U,U,U,U,U,U,U,U] rfl rfl (take_ofW HT_.out HW_.out (by kernel_rfl)) (fun _ _ _ h => h) (Or.inl ⟨by rfl, ?_⟩) hHeld ?_ ?_
    rotate_left
    ·rintro w' ⟨s0, s1, s2, s3, s4, s5, s6, s7, s8, s9, s10, s11, s12⟩
     go_simp
     with_reducible rfl
    rotate_left
    ·simp only [Act.put, sA, sZ, sS, i64_w, i32_w]
     rfl
    refine take_ (i := 20) (N := some 36) (v := ?_) (a' := ?_) #[Y,Y,Y,Y,Y,Y,Y,Y,Y,Y,Y,Y,Y,Y,Y,Y,Y,Y,Y,Y,Y,U,U,U,U,U,U,U,U,U,U,U,U,U] rfl rfl (take_ofW HT_.out HW_.out (by kernel_rfl)) (fun _ _ _ h => h) (Or.inl ⟨by rfl, ?_⟩) hHeld ?_ ?_
    rotate_left
    ·rintro w' ⟨s0, s1, s2, s3, s4, s5, s6, s7, s8, s9, s10, s11, s12⟩
     go_simp
     with_reducible rfl
    rotate_left
    ·simp only [Act.put, sA, sZ, sS, i64_w, i32_w]
     rfl
    refine pure_ (i := 21) (N := some 37) (v := ?_) (a' := ?_) #[Y,Y,Y,Y,Y,Y,Y,Y,Y,Y,Y,Y,Y,Y,Y,Y,Y,Y,Y,Y,Y,Y,U,U,U,U,U,U,U,U,U,U,U,U] rfl rfl (any_of HT_.out (by kernel_rfl)) (fun _ _ _ h => h) (Or.inl ⟨by rfl, ?_⟩) ?_ ?_
    rotate_left
    ·intro w'
     go_simp
     with_reducible rfl
    rotate_left
    ·simp only [Act.put, sA, sZ, sS, i64_w, i32_w]
     rfl
    refine pure_ (i := 22) (N := some 38) (v := ?_) (a' := ?_) #[Y,Y,Y,Y,Y,Y,Y,Y,Y,Y,Y,Y,Y,Y,Y,Y,Y,Y,Y,Y,Y,Y,Y,U,U,U,U,U,U,U,U,U,U,U] rfl rfl (any_of HT_.out (by kernel_rfl)) (fun _ _ _ h => h) (Or.inl ⟨by rfl, ?_⟩) ?_ ?_
    rotate_left
    ·intro w'
     go_simp
     with_reducible rfl
    rotate_left
    ·simp only [Act.put, sA, sZ, sS, i64_w, i32_w]
     rfl
    refine pure_ (i := 23) (N := some 39) (v := ?_) (a' := ?_) #[Y,Y,Y,Y,Y,Y,Y,Y,Y,Y,Y,Y,Y,Y,Y,Y,Y,Y,Y,Y,Y,Y,Y,Y,U,U,U,U,U,U,U,U,U,U] rfl rfl (any_of HT_.out (by kernel_rfl)) (fun _ _ _ h => h) (Or.inl ⟨by rfl, ?_⟩) ?_ ?_
    rotate_left
    ·intro w'
     go_simp
     with_reducible rfl
    rotate_left
    ·simp only [Act.put, sA, sZ, sS, i64_w, i32_w]
     rfl
    refine pure_ (i := 24) (N := some 40) (v := ?_) (a' := ?_) #[Y,Y,Y,Y,Y,Y,Y,Y,Y,Y,Y,Y,Y,Y,Y,Y,Y,Y,Y,Y,Y,Y,Y,Y,Y,U,U,U,U,U,U,U,U,U] rfl rfl (any_of HT_.out (by kernel_rfl)) (fun _ _ _ h => h) (Or.inl ⟨by rfl, ?_⟩) ?_ ?_
    rotate_left
    ·intro w'
     go_simp
     with_reducible rfl
    rotate_left
    ·simp only [Act.put, sA, sZ, sS, i64_w, i32_w]
     rfl
    refine pure_ (i := 25) (N := some 41) (v := ?_) (a' := ?_) #[Y,Y,Y,Y,Y,Y,Y,Y,Y,Y,Y,Y,Y,Y,Y,Y,Y,Y,Y,Y,Y,Y,Y,Y,Y,Y,U,U,U,U,U,U,U,U] rfl rfl (any_of HT_.out (by kernel_rfl)) (fun _ _ _ h => h) (Or.inl ⟨by rfl, ?_⟩) ?_ ?_
    rotate_left
    ·intro w'
     go_simp
     with_reducible rfl
    rotate_left
    ·simp only [Act.put, sA, sZ, sS, i64_w, i32_w]
     rfl
    refine take_ (i := 26) (N := some 42) (v := ?_) (a' := ?_) #[Y,Y,Y,Y,Y,Y,Y,Y,Y,Y,Y,Y,Y,Y,Y,Y,Y,Y,Y,Y,Y,Y,Y,Y,Y,Y,Y,U,U,U,U,U,U,U] rfl rfl (take_ofW HT_.out HW_.out (by kernel_rfl)) (fun _ _ _ h => h) (Or.inl ⟨by rfl, ?_⟩) hHeld ?_ ?_
    rotate_left
    ·rintro w' ⟨s0, s1, s2, s3, s4, s5, s6, s7, s8, s9, s10, s11, s12⟩
     go_simp
     with_reducible rfl
    rotate_left
    ·simp only [Act.put, sA, sZ, sS, i64_w, i32_w]
     rfl
    refine pure_ (i := 27) (N := some 43) (v := ?_) (a' := ?_) #[Y,Y,Y,Y,Y,Y,Y,Y,Y,Y,Y,Y,Y,Y,Y,Y,Y,Y,Y,Y,Y,Y,Y,Y,Y,Y,Y,Y,U,U,U,U,U,U] rfl rfl (any_of HT_.out (by kernel_rfl)) (fun _ _ _ h => h) (Or.inl ⟨by rfl, ?_⟩) ?_ ?_
    rotate_left
    ·intro w'
     go_simp
     with_reducible rfl
    rotate_left
    ·simp only [Act.put, sA, sZ, sS, i64_w, i32_w]
     rfl
    refine pure_ (i := 28) (N := some 44) (v := ?_) (a' := ?_) #[Y,Y,Y,Y,Y,Y,Y,Y,Y,Y,Y,Y,Y,Y,Y,Y,Y,Y,Y,Y,Y,Y,Y,Y,Y,Y,Y,Y,Y,U,U,U,U,U] rfl rfl (any_of HT_.out (by kernel_rfl)) (fun _ _ _ h => h) (Or.inl ⟨by rfl, ?_⟩) ?_ ?_
    rotate_left
    ·intro w'
     go_simp
     with_reducible rfl
    rotate_left
    ·simp only [Act.put, sA, sZ, sS, i64_w, i32_w]
     rfl
    refine pure_ (i := 29) (N := some 45) (v := ?_) (a' := ?_) #[Y,Y,Y,Y,Y,Y,Y,Y,Y,Y,Y,Y,Y,Y,Y,Y,Y,Y,Y,Y,Y,Y,Y,Y,Y,Y,Y,Y,Y,Y,U,U,U,U] rfl rfl (any_of HT_.out (by kernel_rfl)) (fun _ _ _ h => h) (Or.inl ⟨by rfl, ?_⟩) ?_ ?_
    rotate_left
    ·intro w'
     go_simp
     with_reducible rfl
    rotate_left
    ·simp only [Act.put, sA, sZ, sS, i64_w, i32_w]
     rfl
    refine pure_ (i := 30) (N := some 46) (v := ?_) (a' := ?_) #[Y,Y,Y,Y,Y,Y,Y,Y,Y,Y,Y,Y,Y,Y,Y,Y,Y,Y,Y,Y,Y,Y,Y,Y,Y,Y,Y,Y,Y,Y,Y,U,U,U] rfl rfl (any_of HT_.out (by kernel_rfl)) (fun _ _ _ h => h) (Or.inl ⟨by rfl, ?_⟩) ?_ ?_
    rotate_left
    ·intro w'
     go_simp
     with_reducible rfl
    rotate_left
    ·simp only [Act.put, sA, sZ, sS, i64_w, i32_w]
     rfl
    refine take_ (i := 31) (N := some 47) (v := ?_) (a' := ?_) #[Y,Y,Y,Y,Y,Y,Y,Y,Y,Y,Y,Y,Y,Y,Y,Y,Y,Y,Y,Y,Y,Y,Y,Y,Y,Y,Y,Y,Y,Y,Y,Y,U,U] rfl rfl (take_ofW HT_.out HW_.out (by kernel_rfl)) (fun _ _ _ h => h) (Or.inl ⟨by rfl, ?_⟩) hHeld ?_ ?_
    rotate_left
    ·rintro w' ⟨s0, s1, s2, s3, s4, s5, s6, s7, s8, s9, s10, s11, s12⟩
     go_simp
     with_reducible rfl
    rotate_left
    ·simp only [Act.put, sA, sZ, sS, i64_w, i32_w]
     rfl
    refine pure_ (i := 32) (N := some 48) (v := ?_) (a' := ?_) #[Y,Y,Y,Y,Y,Y,Y,Y,Y,Y,Y,Y,Y,Y,Y,Y,Y,Y,Y,Y,Y,Y,Y,Y,Y,Y,Y,Y,Y,Y,Y,Y,Y,U] rfl rfl (any_of HT_.out (by kernel_rfl)) (fun _ _ _ h => h) (Or.inl ⟨by rfl, ?_⟩) ?_ ?_
    rotate_left
    ·intro w'
     go_simp
     with_reducible rfl
    rotate_left
    ·simp only [Act.put, sA, sZ, sS, i64_w, i32_w]
     rfl
    refine pure_ (i := 33) (N := some 49) (v := ?_) (a' := ?_) #[Y,Y,Y,Y,Y,Y,Y,Y,Y,Y,Y,Y,Y,Y,Y,Y,Y,Y,Y,Y,Y,Y,Y,Y,Y,Y,Y,Y,Y,Y,Y,Y,Y,Y] rfl rfl (any_of HT_.out (by kernel_rfl)) (fun _ _ _ h => h) (Or.inl ⟨by rfl, ?_⟩) ?_ ?_
    rotate_left
    ·intro w'
     go_simp
     with_reducible rfl
    rotate_left
    ·simp only [Act.put, sA, sZ, sS, i64_w, i32_w]
     rfl
    refine done_ (done_of HT_.out (by kernel_rfl)) ?_
    try go_wp2
    go_meet
    case rel => (try rw [← Nbq11.out]); exact ⟨_, (decide (((rd_T109 l0_1 x11_1).f3) ≥ 8)), (by first | rfl | (simp; done) | (simp [*]; done)), H', ⟨by have := HK1.out; first | omega | exact Nat.le_refl _⟩, ⟨by (with_reducible repeat (first | refine blk_drewN ?_ _ | refine blk_drew ?_ | refine blk_alloc ?_ _)); exact BK218.out⟩, ⟨by (with_reducible repeat (first | refine blk_drewN ?_ _ | refine blk_drew ?_ | refine blk_alloc ?_ _)); exact BK220.out⟩, ⟨by repeat (first | (with_reducible first | exact HB.out | apply below_alloc | apply pw_below_drewN | apply below_drew1 | refine below_set ?_ GE218.out | refine below_set ?_ GE220.out) | exact HB.out)⟩⟩
   case rest =>
    clear HC7
    try clear c1
    try clear p2
    try clear c12
    try clear c19
    try clear c19b0
    obtain ⟨kq, x49_6, rfl, HA, HJ6, BK218, BK220, HB⟩ := hcut
    cases kq with
    | zero => exact absurd HA.out (by simp [impl_Bridge_rootPort.j1])
    | succ kj6 =>
     have H := HA.out
     clear HA
     simp only [impl_Bridge_rootPort.j1] at H
     by_cases c26 : x49_6 = true
     case pos =>
      subst c26
      have H1 : (impl_Bridge_rootPort.l0 kj6 x3_1 l0_1 (l0_1.length : Int) (wrap64 (x11_1 + 1)) a0_0 l0_1) = some r := by rw [if_pos rfl] at H; exact H
      clear H
      have H := H1
      clear H1
      have H' := aM H
      clear H
      go_wp2
      go_roundg kj6
      case measure => have := HK1.out; have := HJ6.out; omega
      case rel => (try rw [← Nbq11.out]); exact ⟨(x3_1), (wrap64 (x11_1 + 1)), (by first | rfl | (simp; done) | (simp [*]; done)), (by first | rfl | (simp; done) | (simp [*]; done)), H', ⟨by have := HK1.out; have := HJ6.out; omega⟩, ⟨by (with_reducible repeat (first | refine blk_drewN ?_ _ | refine blk_drew ?_ | refine blk_alloc ?_ _)); exact BK218.out⟩, ⟨by repeat (first | (with_reducible first | exact HB.out | apply below_alloc | apply pw_below_drewN | apply below_drew1 | refine below_set ?_ GE218.out | refine below_set ?_ GE220.out) | exact HB.out)⟩⟩
     replace c26 := Bool.eq_false_iff.mpr c26
     subst c26
     have H1 : (if x3_1 < 0 then (impl_Bridge_rootPort.l0 kj6 x11_1 l0_1 (l0_1.length : Int) (wrap64 (x11_1 + 1)) a0_0 l0_1) else (if 0 ≤ x3_1 then (if x3_1 < (l0_1.length : Int) then ((impl_Better.f kj6 ((rd_T109 l0_1 x11_1).f2.f0) ((rd_T109 l0_1 x11_1).f2.f1) ((rd_T109 l0_1 x11_1).f2.f2) ((rd_T109 l0_1 x11_1).f2.f3) ((rd_T109 l0_1 x3_1).f2.f0) ((rd_T109 l0_1 x3_1).f2.f1) ((rd_T109 l0_1 x3_1).f2.f2) ((rd_T109 l0_1 x3_1).f2.f3)).bind fun t222 => (if t222 = true then (impl_Bridge_rootPort.l0 kj6 x11_1 l0_1 (l0_1.length : Int) (wrap64 (x11_1 + 1)) a0_0 l0_1) else (impl_Bridge_rootPort.l0 kj6 x3_1 l0_1 (l0_1.length : Int) (wrap64 (x11_1 + 1)) a0_0 l0_1))) else (none)) else (none))) = some r := by rw [if_neg (show ¬ (false = true) by decide)] at H; exact H
     clear H
     have H := H1
     clear H1
     by_cases c27 : x3_1 < 0
     case pos =>
      rw [if_pos c27] at H
      have c27b0 : decide (x3_1 < 0) = true := decide_eq_true c27
      clear c27
      have H' := aM H
      clear H
      try go_wp2
      have n0_ := aM (blk_drew BK218.out)
      have n1_ := aM (blk_drew BK220.out)
      have n2_ := aM (below_drew1 HB.out)
      clear BK218
      clear BK220
      clear HB
      have BK218 := n0_
      have BK220 := n1_
      have HB := n2_
      clear n0_ n1_ n2_
      refine start_ (n := 15) (S := fun w' => True) (ds := []) #[U,U,U,U,U,U,U,U,U,U,U,U,U,U,U] (by kernel_rfl) rfl rfl trivial (fun hHeld => ?_); refine with_tabW impl_Bridge_rootPort.tab6 impl_Bridge_rootPort.bits6 (fun HT_ HW_ => ?_)
      generalize wc.drew = w28 at BK218 BK220 HB hHeld ⊢
      refine pure_ (i := 0) (N := some 50) (v := ?_) (a' := ?_) #[Y,U,U,U,U,U,U,U,U,U,U,U,U,U,U] rfl rfl (any_of HT_.out (by kernel_rfl)) (fun _ _ _ h => h) (Or.inl ⟨by rfl, ?_⟩) ?_ ?_
      rotate_left
      ·intro w'
       go_simp
       with_reducible rfl
      rotate_left
      ·simp only [Act.put, sA, sZ, sS, i64_w, i32_w]
       rfl
      refine pure_ (i := 1) (N := some 51) (v := ?_) (a' := ?_) #[Y,Y,U,U,U,U,U,U,U,U,U,U,U,U,U] rfl rfl (any_of HT_.out (by kernel_rfl)) (fun _ _ _ h => h) (Or.inl ⟨by rfl, ?_⟩) ?_ ?_
      rotate_left
      ·intro w'
       go_simp
       with_reducible rfl
      rotate_left
      ·simp only [Act.put, sA, sZ, sS, i64_w, i32_w]
       rfl
      refine pure_ (i := 2) (N := some 52) (v := ?_) (a' := ?_) #[Y,Y,Y,U,U,U,U,U,U,U,U,U,U,U,U] rfl rfl (any_of HT_.out (by kernel_rfl)) (fun _ _ _ h => h) (Or.inl ⟨by rfl, ?_⟩) ?_ ?_
      rotate_left
      ·intro w'
       go_simp
       with_reducible rfl
      rotate_left
      ·simp only [Act.put, sA, sZ, sS, i64_w, i32_w]
       rfl
      refine pure_ (i := 3) (N := some 53) (v := undef) (a' := ?_) #[Y,Y,Y,Y,U,U,U,U,U,U,U,U,U,U,U] rfl rfl (any_of HT_.out (by kernel_rfl)) (fun _ _ _ h => h) (Or.inr ⟨by rfl, rfl⟩) ?_ ?_
      rotate_left
      ·simp only [Act.put, sA, sZ, sS, i64_w, i32_w]
       rfl
      refine pure_ (i := 4) (N := some 54) (v := undef) (a' := ?_) #[Y,Y,Y,Y,Y,U,U,U,U,U,U,U,U,U,U] rfl rfl (any_of HT_.out (by kernel_rfl)) (fun _ _ _ h => h) (Or.inr ⟨by rfl, rfl⟩) ?_ ?_
      rotate_left
      ·simp only [Act.put, sA, sZ, sS, i64_w, i32_w]
       rfl
      refine pure_ (i := 5) (N := some 55) (v := undef) (a' := ?_) #[Y,Y,Y,Y,Y,Y,U,U,U,U,U,U,U,U,U] rfl rfl (any_of HT_.out (by kernel_rfl)) (fun _ _ _ h => h) (Or.inr ⟨by rfl, rfl⟩) ?_ ?_
      rotate_left
      ·simp only [Act.put, sA, sZ, sS, i64_w, i32_w]
       rfl
      refine pure_ (i := 6) (N := some 56) (v := undef) (a' := ?_) #[Y,Y,Y,Y,Y,Y,Y,U,U,U,U,U,U,U,U] rfl rfl (any_of HT_.out (by kernel_rfl)) (fun _ _ _ h => h) (Or.inr ⟨by rfl, rfl⟩) ?_ ?_
      rotate_left
      ·simp only [Act.put, sA, sZ, sS, i64_w, i32_w]
       rfl
      refine pure_ (i := 7) (N := some 57) (v := undef) (a' := ?_) #[Y,Y,Y,Y,Y,Y,Y,Y,U,U,U,U,U,U,U] rfl rfl (any_of HT_.out (by kernel_rfl)) (fun _ _ _ h => h) (Or.inr ⟨by rfl, rfl⟩) ?_ ?_
      rotate_left
      ·simp only [Act.put, sA, sZ, sS, i64_w, i32_w]
       rfl
      refine pure_ (i := 8) (N := some 58) (v := undef) (a' := ?_) #[Y,Y,Y,Y,Y,Y,Y,Y,Y,U,U,U,U,U,U] rfl rfl (any_of HT_.out (by kernel_rfl)) (fun _ _ _ h => h) (Or.inr ⟨by rfl, rfl⟩) ?_ ?_
      rotate_left
      ·simp only [Act.put, sA, sZ, sS, i64_w, i32_w]
       rfl
      refine pure_ (i := 9) (N := some 59) (v := undef) (a' := ?_) #[Y,Y,Y,Y,Y,Y,Y,Y,Y,Y,U,U,U,U,U] rfl rfl (any_of HT_.out (by kernel_rfl)) (fun _ _ _ h => h) (Or.inr ⟨by rfl, rfl⟩) ?_ ?_
      rotate_left
      ·simp only [Act.put, sA, sZ, sS, i64_w, i32_w]
       rfl
      refine pure_ (i := 10) (N := some 60) (v := undef) (a' := ?_) #[Y,Y,Y,Y,Y,Y,Y,Y,Y,Y,Y,U,U,U,U] rfl rfl (any_of HT_.out (by kernel_rfl)) (fun _ _ _ h => h) (Or.inr ⟨by rfl, rfl⟩) ?_ ?_
      rotate_left
      ·simp only [Act.put, sA, sZ, sS, i64_w, i32_w]
       rfl
      refine pure_ (i := 11) (N := some 61) (v := undef) (a' := ?_) #[Y,Y,Y,Y,Y,Y,Y,Y,Y,Y,Y,Y,U,U,U] rfl rfl (any_of HT_.out (by kernel_rfl)) (fun _ _ _ h => h) (Or.inr ⟨by rfl, rfl⟩) ?_ ?_
      rotate_left
      ·simp only [Act.put, sA, sZ, sS, i64_w, i32_w]
       rfl
      refine pure_ (i := 12) (N := some 62) (v := undef) (a' := ?_) #[Y,Y,Y,Y,Y,Y,Y,Y,Y,Y,Y,Y,Y,U,U] rfl rfl (any_of HT_.out (by kernel_rfl)) (fun _ _ _ h => h) (Or.inr ⟨by rfl, rfl⟩) ?_ ?_
      rotate_left
      ·simp only [Act.put, sA, sZ, sS, i64_w, i32_w]
       rfl
      refine pure_ (i := 13) (N := some 63) (v := undef) (a' := ?_) #[Y,Y,Y,Y,Y,Y,Y,Y,Y,Y,Y,Y,Y,Y,U] rfl rfl (any_of HT_.out (by kernel_rfl)) (fun _ _ _ h => h) (Or.inr ⟨by rfl, rfl⟩) ?_ ?_
      rotate_left
      ·simp only [Act.put, sA, sZ, sS, i64_w, i32_w]
       rfl
      refine pure_ (i := 14) (N := some 64) (v := ?_) (a' := ?_) #[Y,Y,Y,Y,Y,Y,Y,Y,Y,Y,Y,Y,Y,Y,Y] rfl rfl (any_of HT_.out (by kernel_rfl)) (fun _ _ _ h => h) (Or.inl ⟨by rfl, ?_⟩) ?_ ?_
      rotate_left
      ·intro w'
       go_simp
       with_reducible rfl
      rotate_left
      ·simp only [Act.put, sA, sZ, sS, i64_w, i32_w]
       rfl
      refine done_ (done_of HT_.out (by kernel_rfl)) ?_
      try go_wp2
      go_roundg kj6
      case measure => have := HK1.out; have := HJ6.out; omega
      case rel => (try rw [← Nbq11.out]); exact ⟨(x11_1), (wrap64 (x11_1 + 1)), (by first | rfl | (simp; done) | (simp [*]; done)), (by first | rfl | (simp; done) | (simp [*]; done)), H', ⟨by have := HK1.out; have := HJ6.out; omega⟩, ⟨by (with_reducible repeat (first | refine blk_drewN ?_ _ | refine blk_drew ?_ | refine blk_alloc ?_ _)); exact BK218.out⟩, ⟨by repeat (first | (with_reducible first | exact HB.out | apply below_alloc | apply pw_below_drewN | apply below_drew1 | refine below_set ?_ GE218.out | refine below_set ?_ GE220.out) | exact HB.out)⟩⟩
     rw [if_neg c27] at H
     have c27b0 : decide (x3_1 < 0) = false := decide_eq_false c27
     clear c27
     by_cases c29 : 0 ≤ x3_1
     case neg =>
      rw [if_neg c29] at H
      exact absurd H (by simp)
     rw [if_pos c29] at H
     have c29b0 : decide (0 ≤ x3_1) = true := decide_eq_true c29
     clear c29
     by_cases c30 : x3_1 < (l0_1.length : Int)
     case neg =>
      rw [if_neg c30] at H
      exact absurd H (by simp)
     rw [if_pos c30] at H
     have c30b0 : decide (x3_1 < (l0_1.length : Int)) = true := decide_eq_true c30
     clear c30
     replace H := Option.bind_eq_some_iff.mp H
     obtain ⟨t222, A310, H⟩ := H
     replace H : (if t222 = true then (impl_Bridge_rootPort.l0 kj6 x11_1 l0_1 (l0_1.length : Int) (wrap64 (x11_1 + 1)) a0_0 l0_1) else (impl_Bridge_rootPort.l0 kj6 x3_1 l0_1 (l0_1.length : Int) (wrap64 (x11_1 + 1)) a0_0 l0_1)) = some r := H
     have A31 := aM A310
     clear A310
     by_cases c32 : t222 = true
     case pos =>
      subst c32
      have H1 : (impl_Bridge_rootPort.l0 kj6 x11_1 l0_1 (l0_1.length : Int) (wrap64 (x11_1 + 1)) a0_0 l0_1) = some r := by rw [if_pos rfl] at H; exact H
      clear H
      have H := H1
      clear H1
      have H' := aM H
      clear H
      try go_wp2
      have n0_ := aM (blk_drew BK218.out)
      have n1_ := aM (blk_drew BK220.out)
      have n2_ := aM (below_drew1 HB.out)
      clear BK218
      clear BK220
      clear HB
      have BK218 := n0_
      have BK220 := n1_
      have HB := n2_
      clear n0_ n1_ n2_
      have p221 : 0 ≤ (x3_1 : Int) := of_decide_eq_true (by first | (with_reducible assumption) | assumption)
      have q221 : x3_1 < (l0_1.length : Int) := of_decide_eq_true (by first | (with_reducible assumption) | assumption)
      obtain ⟨ad221, e221, hx221_0, hx221_1, hx221_2, hx221_3, hx221_4, hx221_5, hx221_6, hx221_7, hx221_8, hx221_9, hx221_10⟩ := at_T109 HR0_1.out x3_1 p221 q221
      have hw221_10 := hx221_10
      have hw221_9 := hx221_9
      have hw221_8 := hx221_8
      have hw221_7 := hx221_7
      have hw221_6 := hx221_6
      have hw221_5 := hx221_5
      have hw221_4 := hx221_4
      have hw221_3 := hx221_3
      have hw221_2 := hx221_2
      have hw221_1 := hx221_1
      have hw221_0 := hx221_0
      obtain rfl : ad219 = ad221 := (by injection e221)
      replace hx221_0 := (HB.out.cell (World.block_lt_of_cell? w _ hx221_0)).trans hx221_0
      replace hx221_1 := (HB.out.cell (World.block_lt_of_cell? w _ hx221_1)).trans hx221_1
      replace hx221_2 := (HB.out.cell (World.block_lt_of_cell? w _ hx221_2)).trans hx221_2
      replace hx221_3 := (HB.out.cell (World.block_lt_of_cell? w _ hx221_3)).trans hx221_3
      replace hx221_4 := (HB.out.cell (World.block_lt_of_cell? w _ hx221_4)).trans hx221_4
      replace hx221_5 := (HB.out.cell (World.block_lt_of_cell? w _ hx221_5)).trans hx221_5
      replace hx221_6 := (HB.out.cell (World.block_lt_of_cell? w _ hx221_6)).trans hx221_6
      replace hx221_7 := (HB.out.cell (World.block_lt_of_cell? w _ hx221_7)).trans hx221_7
      replace hx221_8 := (HB.out.cell (World.block_lt_of_cell? w _ hx221_8)).trans hx221_8
      replace hx221_9 := (HB.out.cell (World.block_lt_of_cell? w _ hx221_9)).trans hx221_9
      replace hx221_10 := (HB.out.cell (World.block_lt_of_cell? w _ hx221_10)).trans hx221_10
      replace p221 := eq_true p221
      replace q221 := eq_true q221
      refine start_ (n := 15) (S := fun w' => w'.cell? ⟨gb220, 0, none⟩ = some (.bool ((rd_T109 l0_1 x11_1).f0)) ∧ w'.cell? ⟨gb220, 1, none⟩ = some (.bool ((rd_T109 l0_1 x11_1).f1)) ∧ w'.cell? ⟨gb220, 2, none⟩ = some (.int .i64 ((rd_T109 l0_1 x11_1).f2.f0)) ∧ w'.cell? ⟨gb220, 3, none⟩ = some (.int .i64 ((rd_T109 l0_1 x11_1).f2.f1)) ∧ w'.cell? ⟨gb220, 4, none⟩ = some (.int .i64 ((rd_T109 l0_1 x11_1).f2.f2)) ∧ w'.cell? ⟨gb220, 5, none⟩ = some (.int .i64 ((rd_T109 l0_1 x11_1).f2.f3)) ∧ w'.cell? ⟨gb220, 6, none⟩ = some (.int .i64 ((rd_T109 l0_1 x11_1).f3)) ∧ w'.cell? ⟨gb220, 7, none⟩ = some (.int .i64 ((rd_T109 l0_1 x11_1).f4)) ∧ w'.cell? ⟨gb220, 8, none⟩ = some (.int .i64 ((rd_T109 l0_1 x11_1).f5)) ∧ w'.cell? ⟨gb220, 9, none⟩ = some (.int .i64 ((rd_T109 l0_1 x11_1).f6)) ∧ w'.cell? ⟨gb220, 10, none⟩ = some (.bool ((rd_T109 l0_1 x11_1).f7)) ∧ w'.cell? ⟨gb, 0, none⟩ = some (.int .i64 a0_0) ∧ w'.cell? ⟨gb, 1, none⟩ = some (.slice (some ad219) l0_1.length c0_1) ∧ w'.cell? (ad219.add ((x3_1).toNat * 11)) = some (.bool ((rd_T109 l0_1 x3_1).f0)) ∧ w'.cell? ⟨(ad219.add ((x3_1).toNat * 11)).block, (ad219.add ((x3_1).toNat * 11)).off + 1, none⟩ = some (.bool ((rd_T109 l0_1 x3_1).f1)) ∧ w'.cell? ⟨(ad219.add ((x3_1).toNat * 11)).block, (ad219.add ((x3_1).toNat * 11)).off + 2, none⟩ = some (.int .i64 ((rd_T109 l0_1 x3_1).f2.f0)) ∧ w'.cell? ⟨(ad219.add ((x3_1).toNat * 11)).block, (ad219.add ((x3_1).toNat * 11)).off + 3, none⟩ = some (.int .i64 ((rd_T109 l0_1 x3_1).f2.f1)) ∧ w'.cell? ⟨(ad219.add ((x3_1).toNat * 11)).block, (ad219.add ((x3_1).toNat * 11)).off + 4, none⟩ = some (.int .i64 ((rd_T109 l0_1 x3_1).f2.f2)) ∧ w'.cell? ⟨(ad219.add ((x3_1).toNat * 11)).block, (ad219.add ((x3_1).toNat * 11)).off + 5, none⟩ = some (.int .i64 ((rd_T109 l0_1 x3_1).f2.f3)) ∧ w'.cell? ⟨(ad219.add ((x3_1).toNat * 11)).block, (ad219.add ((x3_1).toNat * 11)).off + 6, none⟩ = some (.int .i64 ((rd_T109 l0_1 x3_1).f3)) ∧ w'.cell? ⟨(ad219.add ((x3_1).toNat * 11)).block, (ad219.add ((x3_1).toNat * 11)).off + 7, none⟩ = some (.int .i64 ((rd_T109 l0_1 x3_1).f4)) ∧ w'.cell? ⟨(ad219.add ((x3_1).toNat * 11)).block, (ad219.add ((x3_1).toNat * 11)).off + 8, none⟩ = some (.int .i64 ((rd_T109 l0_1 x3_1).f5)) ∧ w'.cell? ⟨(ad219.add ((x3_1).toNat * 11)).block, (ad219.add ((x3_1).toNat * 11)).off + 9, none⟩ = some (.int .i64 ((rd_T109 l0_1 x3_1).f6)) ∧ w'.cell? ⟨(ad219.add ((x3_1).toNat * 11)).block, (ad219.add ((x3_1).toNat * 11)).off + 10, none⟩ = some (.bool ((rd_T109 l0_1 x3_1).f7))) (ds := []) #[U,U,U,U,U,U,U,U,U,U,U,U,U,U,U] (by kernel_rfl) rfl rfl ⟨(blk_cell BK220.out 0).trans rfl, (blk_cell BK220.out 1).trans rfl, (blk_cell BK220.out 2).trans rfl, (blk_cell BK220.out 3).trans rfl, (blk_cell BK220.out 4).trans rfl, (blk_cell BK220.out 5).trans rfl, (blk_cell BK220.out 6).trans rfl, (blk_cell BK220.out 7).trans rfl, (blk_cell BK220.out 8).trans rfl, (blk_cell BK220.out 9).trans rfl, (blk_cell BK220.out 10).trans rfl, (blk_cell BK218.out 0).trans rfl, (blk_cell BK218.out 1).trans rfl, ((HB.out.cell (World.block_lt_of_cell? w _ hw221_0)).trans hw221_0), ((HB.out.cell (World.block_lt_of_cell? w _ hw221_1)).trans hw221_1), ((HB.out.cell (World.block_lt_of_cell? w _ hw221_2)).trans hw221_2), ((HB.out.cell (World.block_lt_of_cell? w _ hw221_3)).trans hw221_3), ((HB.out.cell (World.block_lt_of_cell? w _ hw221_4)).trans hw221_4), ((HB.out.cell (World.block_lt_of_cell? w _ hw221_5)).trans hw221_5), ((HB.out.cell (World.block_lt_of_cell? w _ hw221_6)).trans hw221_6), ((HB.out.cell (World.block_lt_of_cell? w _ hw221_7)).trans hw221_7), ((HB.out.cell (World.block_lt_of_cell? w _ hw221_8)).trans hw221_8), ((HB.out.cell (World.block_lt_of_cell? w _ hw221_9)).trans hw221_9), ((HB.out.cell (World.block_lt_of_cell? w _ hw221_10)).trans hw221_10)⟩ (fun hHeld => ?_); refine with_tabW impl_Bridge_rootPort.tab6 impl_Bridge_rootPort.bits6 (fun HT_ HW_ => ?_)
      generalize wc.drew = w33 at BK218 BK220 HB hx221_0 hx221_1 hx221_10 hx221_2 hx221_3 hx221_4 hx221_5 hx221_6 hx221_7 hx221_8 hx221_9 hHeld ⊢
      refine pure_ (i := 0) (N := some 50) (v := ?_) (a' := ?_) #[Y,U,U,U,U,U,U,U,U,U,U,U,U,U,U] rfl rfl (any_of HT_.out (by kernel_rfl)) (fun _ _ _ h => h) (Or.inl ⟨by rfl, ?_⟩) ?_ ?_
      rotate_left
      ·intro w'
       go_simp
       with_reducible rfl
      rotate_left
      ·simp only [Act.put, sA, sZ, sS, i64_w, i32_w]
       rfl
      refine pure_ (i := 1) (N := some 51) (v := ?_) (a' := ?_) #[Y,Y,U,U,U,U,U,U,U,U,U,U,U,U,U] rfl rfl (any_of HT_.out (by kernel_rfl)) (fun _ _ _ h => h) (Or.inl ⟨by rfl, ?_⟩) ?_ ?_
      rotate_left
      ·intro w'
       go_simp
       with_reducible rfl
      rotate_left
      ·simp only [Act.put, sA, sZ, sS, i64_w, i32_w]
       rfl
      refine pure_ (i := 2) (N := some 52) (v := ?_) (a' := ?_) #[Y,Y,Y,U,U,U,U,U,U,U,U,U,U,U,U] rfl rfl (any_of HT_.out (by kernel_rfl)) (fun _ _ _ h => h) (Or.inl ⟨by rfl, ?_⟩) ?_ ?_
      rotate_left
      ·intro w'
       go_simp
       with_reducible rfl
      rotate_left
      ·simp only [Act.put, sA, sZ, sS, i64_w, i32_w]
       rfl
      refine pure_ (i := 3) (N := some 53) (v := ?_) (a' := ?_) #[Y,Y,Y,Y,U,U,U,U,U,U,U,U,U,U,U] rfl rfl (any_of HT_.out (by kernel_rfl)) (fun _ _ _ h => h) (Or.inl ⟨by rfl, ?_⟩) ?_ ?_
      rotate_left
      ·intro w'
       go_simp
       with_reducible rfl
      rotate_left
      ·simp only [Act.put, sA, sZ, sS, i64_w, i32_w]
       rfl
      refine pure_ (i := 5) (N := some 55) (v := ?_) (a' := ?_) #[Y,Y,Y,Y,U,Y,U,U,U,U,U,U,U,U,U] rfl rfl (any_of HT_.out (by kernel_rfl)) (fun _ _ _ h => h) (Or.inl ⟨by rfl, ?_⟩) ?_ ?_
      rotate_left
      ·intro w'
       go_simp
       with_reducible rfl
      rotate_left
      ·simp only [Act.put, sA, sZ, sS, i64_w, i32_w]
       rfl
      refine pure_ (i := 6) (N := some 56) (v := ?_) (a' := ?_) #[Y,Y,Y,Y,U,Y,Y,U,U,U,U,U,U,U,U] rfl rfl (any_of HT_.out (by kernel_rfl)) (fun _ _ _ h => h) (Or.inl ⟨by rfl, ?_⟩) ?_ ?_
      rotate_left
      ·intro w'
       go_simp
       with_reducible rfl
      rotate_left
      ·simp only [Act.put, sA, sZ, sS, i64_w, i32_w]
       rfl
      refine pure_ (i := 7) (N := some 57) (v := ?_) (a' := ?_) #[Y,Y,Y,Y,U,Y,Y,Y,U,U,U,U,U,U,U] rfl rfl (any_of HT_.out (by kernel_rfl)) (fun _ _ _ h => h) (Or.inl ⟨by rfl, ?_⟩) ?_ ?_
      rotate_left
      ·intro w'
       go_simp
       with_reducible rfl
      rotate_left
      ·simp only [Act.put, sA, sZ, sS, i64_w, i32_w]
       rfl
      refine pure_ (i := 9) (N := some 59) (v := ?_) (a' := ?_) #[Y,Y,Y,Y,U,Y,Y,Y,U,Y,U,U,U,U,U] rfl rfl (any_of HT_.out (by kernel_rfl)) (fun _ _ _ h => h) (Or.inl ⟨by rfl, ?_⟩) ?_ ?_
      rotate_left
      ·intro w'
       go_simp
       with_reducible rfl
      rotate_left
      ·simp only [Act.put, sA, sZ, sS, i64_w, i32_w]
       rfl
      refine take_ (i := 4) (N := some 54) (v := ?_) (a' := ?_) #[Y,Y,Y,Y,Y,Y,Y,Y,U,Y,U,U,U,U,U] rfl rfl (take_ofW HT_.out HW_.out (by kernel_rfl)) (fun _ _ _ h => h) (Or.inl ⟨by rfl, ?_⟩) hHeld ?_ ?_
      rotate_left
      ·rintro w' ⟨s0, s1, s2, s3, s4, s5, s6, s7, s8, s9, s10, s11, s12, s13, s14, s15, s16, s17, s18, s19, s20, s21, s22, s23⟩
       go_simp
       with_reducible rfl
      rotate_left
      ·simp only [Act.put, sA, sZ, sS, i64_w, i32_w]
       rfl
      refine take_ (i := 8) (N := some 58) (v := ?_) (a' := ?_) #[Y,Y,Y,Y,Y,Y,Y,Y,Y,Y,U,U,U,U,U] rfl rfl (take_ofW HT_.out HW_.out (by kernel_rfl)) (fun _ _ _ h => h) (Or.inl ⟨by rfl, ?_⟩) hHeld ?_ ?_
      rotate_left
      ·rintro w' ⟨s0, s1, s2, s3, s4, s5, s6, s7, s8, s9, s10, s11, s12, s13, s14, s15, s16, s17, s18, s19, s20, s21, s22, s23⟩
       go_simp
       with_reducible rfl
      rotate_left
      ·simp only [Act.put, sA, sZ, sS, i64_w, i32_w]
       rfl
      refine pure_ (i := 10) (N := some 60) (v := ?_) (a' := ?_) #[Y,Y,Y,Y,Y,Y,Y,Y,Y,Y,Y,U,U,U,U] rfl rfl (any_of HT_.out (by kernel_rfl)) (fun _ _ _ h => h) (Or.inl ⟨by rfl, ?_⟩) ?_ ?_
      rotate_left
      ·intro w'
       go_simp
       with_reducible rfl
      rotate_left
      ·simp only [Act.put, sA, sZ, sS, i64_w, i32_w]
       rfl
      refine pure_ (i := 11) (N := some 61) (v := ?_) (a' := ?_) #[Y,Y,Y,Y,Y,Y,Y,Y,Y,Y,Y,Y,U,U,U] rfl rfl (any_of HT_.out (by kernel_rfl)) (fun _ _ _ h => h) (Or.inl ⟨by rfl, ?_⟩) ?_ ?_
      rotate_left
      ·intro w'
       go_simp
       with_reducible rfl
      rotate_left
      ·simp only [Act.put, sA, sZ, sS, i64_w, i32_w]
       rfl
      refine take_ (i := 12) (N := some 62) (v := ?_) (a' := ?_) #[Y,Y,Y,Y,Y,Y,Y,Y,Y,Y,Y,Y,Y,U,U] rfl rfl (take_ofW HT_.out HW_.out (by kernel_rfl)) (fun _ _ _ h => h) (Or.inl ⟨by rfl, ?_⟩) hHeld ?_ ?_
      rotate_left
      ·rintro w' ⟨s0, s1, s2, s3, s4, s5, s6, s7, s8, s9, s10, s11, s12, s13, s14, s15, s16, s17, s18, s19, s20, s21, s22, s23⟩
       go_simp
       with_reducible rfl
      rotate_left
      ·simp only [Act.put, sA, sZ, sS, i64_w, i32_w]
       rfl
      refine one_ (i := 13) (N := some 63) #[Y,Y,Y,Y,Y,Y,Y,Y,Y,Y,Y,Y,Y,Y,U] rfl rfl (one_of HT_.out (by kernel_rfl)) (by decide) (fun K hK => ?_)
      refine goes_ Try.func120 (by kernel_rfl) rfl #[.agg #[.int .i64 ((rd_T109 l0_1 x11_1).f2.f0), .int .i64 ((rd_T109 l0_1 x11_1).f2.f1), .int .i64 ((rd_T109 l0_1 x11_1).f2.f2), .int .i64 ((rd_T109 l0_1 x11_1).f2.f3)], .agg #[.int .i64 ((rd_T109 l0_1 x3_1).f2.f0), .int .i64 ((rd_T109 l0_1 x3_1).f2.f1), .int .i64 ((rd_T109 l0_1 x3_1).f2.f2), .int .i64 ((rd_T109 l0_1 x3_1).f2.f3)]] (by rfl) rfl rfl (by (try simp only [List.map_toArray, List.map_cons, List.map_nil]); first | done | rfl | (simp only [List.length_drop, List.length_take]; rfl)) ?_
      with_reducible refine (impl_Better.calls kj6 ((rd_T109 l0_1 x11_1).f2.f0) ((rd_T109 l0_1 x11_1).f2.f1) ((rd_T109 l0_1 x11_1).f2.f2) ((rd_T109 l0_1 x11_1).f2.f3) ((rd_T109 l0_1 x3_1).f2.f0) ((rd_T109 l0_1 x3_1).f2.f1) ((rd_T109 l0_1 x3_1).f2.f2) ((rd_T109 l0_1 x3_1).f2.f3) true _ A31.out).mono ?_
      rintro e w34 ⟨rfl, hb⟩
      refine ⟨_, rfl, ?_⟩
      have n0_ := aM (blk_below (g := gb) (o := .cells #[.int .i64 a0_0, .slice (some ad219) l0_1.length c0_1] 66 (0, 0)) (by (with_reducible repeat (first | refine blk_drewN ?_ _ | refine blk_drew ?_ | refine blk_alloc ?_ _)); exact BK218.out) hb)
      have n1_ := aM (blk_below (g := gb220) (o := .cells #[.bool ((rd_T109 l0_1 x11_1).f0), .bool ((rd_T109 l0_1 x11_1).f1), .int .i64 ((rd_T109 l0_1 x11_1).f2.f0), .int .i64 ((rd_T109 l0_1 x11_1).f2.f1), .int .i64 ((rd_T109 l0_1 x11_1).f2.f2), .int .i64 ((rd_T109 l0_1 x11_1).f2.f3), .int .i64 ((rd_T109 l0_1 x11_1).f3), .int .i64 ((rd_T109 l0_1 x11_1).f4), .int .i64 ((rd_T109 l0_1 x11_1).f5), .int .i64 ((rd_T109 l0_1 x11_1).f6), .bool ((rd_T109 l0_1 x11_1).f7)] 109 (0, 0)) (by (with_reducible repeat (first | refine blk_drewN ?_ _ | refine blk_drew ?_ | refine blk_alloc ?_ _)); exact BK220.out) hb)
      have n2_ := aM (below_step (by repeat (first | (with_reducible first | exact HB.out | apply below_alloc | apply pw_below_drewN | apply below_drew1 | refine below_set ?_ GE218.out | refine below_set ?_ GE220.out) | exact HB.out)) hb)
      clear BK218
      clear BK220
      clear HB
      have BK218 := n0_
      have BK220 := n1_
      have HB := n2_
      clear n0_ n1_ n2_
      (try clear hb)
      (try clear hb2)
      (try clear hk)
      (try clear hi)
      refine hK.out _ _ ⟨(blk_cell BK220.out 0).trans rfl, (blk_cell BK220.out 1).trans rfl, (blk_cell BK220.out 2).trans rfl, (blk_cell BK220.out 3).trans rfl, (blk_cell BK220.out 4).trans rfl, (blk_cell BK220.out 5).trans rfl, (blk_cell BK220.out 6).trans rfl, (blk_cell BK220.out 7).trans rfl, (blk_cell BK220.out 8).trans rfl, (blk_cell BK220.out 9).trans rfl, (blk_cell BK220.out 10).trans rfl, (blk_cell BK218.out 0).trans rfl, (blk_cell BK218.out 1).trans rfl, ((HB.out.cell (World.block_lt_of_cell? w _ hw221_0)).trans hw221_0), ((HB.out.cell (World.block_lt_of_cell? w _ hw221_1)).trans hw221_1), ((HB.out.cell (World.block_lt_of_cell? w _ hw221_2)).trans hw221_2), ((HB.out.cell (World.block_lt_of_cell? w _ hw221_3)).trans hw221_3), ((HB.out.cell (World.block_lt_of_cell? w _ hw221_4)).trans hw221_4), ((HB.out.cell (World.block_lt_of_cell? w _ hw221_5)).trans hw221_5), ((HB.out.cell (World.block_lt_of_cell? w _ hw221_6)).trans hw221_6), ((HB.out.cell (World.block_lt_of_cell? w _ hw221_7)).trans hw221_7), ((HB.out.cell (World.block_lt_of_cell? w _ hw221_8)).trans hw221_8), ((HB.out.cell (World.block_lt_of_cell? w _ hw221_9)).trans hw221_9), ((HB.out.cell (World.block_lt_of_cell? w _ hw221_10)).trans hw221_10)⟩ (fun hHeld => ?_)
      clear hK K
      refine norm_ (a' := ?_) ?_ ?_
      rotate_left
      ·show Act.put _ (some 63) _ = _
       simp only [Act.put, sA, sZ, sS, i64_w, i32_w]
       rfl
      refine pure_ (i := 14) (N := some 64) (v := ?_) (a' := ?_) #[Y,Y,Y,Y,Y,Y,Y,Y,Y,Y,Y,Y,Y,Y,Y] rfl rfl (any_of HT_.out (by kernel_rfl)) (fun _ _ _ h => h) (Or.inl ⟨by rfl, ?_⟩) ?_ ?_
      rotate_left
      ·intro w'
       go_simp
       with_reducible rfl
      rotate_left
      ·simp only [Act.put, sA, sZ, sS, i64_w, i32_w]
       rfl
      refine done_ (done_of HT_.out (by kernel_rfl)) ?_
      try go_wp2
      go_roundg kj6
      case measure => have := HK1.out; have := HJ6.out; omega
      case rel => (try rw [← Nbq11.out]); exact ⟨(x11_1), (wrap64 (x11_1 + 1)), (by first | rfl | (simp; done) | (simp [*]; done)), (by first | rfl | (simp; done) | (simp [*]; done)), H', ⟨by have := HK1.out; have := HJ6.out; omega⟩, ⟨by (with_reducible repeat (first | refine blk_drewN ?_ _ | refine blk_drew ?_ | refine blk_alloc ?_ _)); exact BK218.out⟩, ⟨by repeat (first | (with_reducible first | exact HB.out | apply below_alloc | apply pw_below_drewN | apply below_drew1 | refine below_set ?_ GE218.out | refine below_set ?_ GE220.out) | exact HB.out)⟩⟩
     replace c32 := Bool.eq_false_iff.mpr c32
     subst c32
     have H1 : (impl_Bridge_rootPort.l0 kj6 x3_1 l0_1 (l0_1.length : Int) (wrap64 (x11_1 + 1)) a0_0 l0_1) = some r := by rw [if_neg (show ¬ (false = true) by decide)] at H; exact H
     clear H
     have H := H1
     clear H1
     have H' := aM H
     clear H
     try go_wp2
     have n0_ := aM (blk_drew BK218.out)
     have n1_ := aM (blk_drew BK220.out)
     have n2_ := aM (below_drew1 HB.out)
     clear BK218
     clear BK220
     clear HB
     have BK218 := n0_
     have BK220 := n1_
     have HB := n2_
     clear n0_ n1_ n2_
     have p221 : 0 ≤ (x3_1 : Int) := of_decide_eq_true (by first | (with_reducible assumption) | assumption)
     have q221 : x3_1 < (l0_1.length : Int) := of_decide_eq_true (by first | (with_reducible assumption) | assumption)
     obtain ⟨ad221, e221, hx221_0, hx221_1, hx221_2, hx221_3, hx221_4, hx221_5, hx221_6, hx221_7, hx221_8, hx221_9, hx221_10⟩ := at_T109 HR0_1.out x3_1 p221 q221
     have hw221_10 := hx221_10
     have hw221_9 := hx221_9
     have hw221_8 := hx221_8
     have hw221_7 := hx221_7
     have hw221_6 := hx221_6
     have hw221_5 := hx221_5
     have hw221_4 := hx221_4
     have hw221_3 := hx221_3
     have hw221_2 := hx221_2
     have hw221_1 := hx221_1
     have hw221_0 := hx221_0
     obtain rfl : ad219 = ad221 := (by injection e221)
     replace hx221_0 := (HB.out.cell (World.block_lt_of_cell? w _ hx221_0)).trans hx221_0
     replace hx221_1 := (HB.out.cell (World.block_lt_of_cell? w _ hx221_1)).trans hx221_1
     replace hx221_2 := (HB.out.cell (World.block_lt_of_cell? w _ hx221_2)).trans hx221_2
     replace hx221_3 := (HB.out.cell (World.block_lt_of_cell? w _ hx221_3)).trans hx221_3
     replace hx221_4 := (HB.out.cell (World.block_lt_of_cell? w _ hx221_4)).trans hx221_4
     replace hx221_5 := (HB.out.cell (World.block_lt_of_cell? w _ hx221_5)).trans hx221_5
     replace hx221_6 := (HB.out.cell (World.block_lt_of_cell? w _ hx221_6)).trans hx221_6
     replace hx221_7 := (HB.out.cell (World.block_lt_of_cell? w _ hx221_7)).trans hx221_7
     replace hx221_8 := (HB.out.cell (World.block_lt_of_cell? w _ hx221_8)).trans hx221_8
     replace hx221_9 := (HB.out.cell (World.block_lt_of_cell? w _ hx221_9)).trans hx221_9
     replace hx221_10 := (HB.out.cell (World.block_lt_of_cell? w _ hx221_10)).trans hx221_10
     replace p221 := eq_true p221
     replace q221 := eq_true q221
     refine start_ (n := 15) (S := fun w' => w'.cell? ⟨gb220, 0, none⟩ = some (.bool ((rd_T109 l0_1 x11_1).f0)) ∧ w'.cell? ⟨gb220, 1, none⟩ = some (.bool ((rd_T109 l0_1 x11_1).f1)) ∧ w'.cell? ⟨gb220, 2, none⟩ = some (.int .i64 ((rd_T109 l0_1 x11_1).f2.f0)) ∧ w'.cell? ⟨gb220, 3, none⟩ = some (.int .i64 ((rd_T109 l0_1 x11_1).f2.f1)) ∧ w'.cell? ⟨gb220, 4, none⟩ = some (.int .i64 ((rd_T109 l0_1 x11_1).f2.f2)) ∧ w'.cell? ⟨gb220, 5, none⟩ = some (.int .i64 ((rd_T109 l0_1 x11_1).f2.f3)) ∧ w'.cell? ⟨gb220, 6, none⟩ = some (.int .i64 ((rd_T109 l0_1 x11_1).f3)) ∧ w'.cell? ⟨gb220, 7, none⟩ = some (.int .i64 ((rd_T109 l0_1 x11_1).f4)) ∧ w'.cell? ⟨gb220, 8, none⟩ = some (.int .i64 ((rd_T109 l0_1 x11_1).f5)) ∧ w'.cell? ⟨gb220, 9, none⟩ = some (.int .i64 ((rd_T109 l0_1 x11_1).f6)) ∧ w'.cell? ⟨gb220, 10, none⟩ = some (.bool ((rd_T109 l0_1 x11_1).f7)) ∧ w'.cell? ⟨gb, 0, none⟩ = some (.int .i64 a0_0) ∧ w'.cell? ⟨gb, 1, none⟩ = some (.slice (some ad219) l0_1.length c0_1) ∧ w'.cell? (ad219.add ((x3_1).toNat * 11)) = some (.bool ((rd_T109 l0_1 x3_1).f0)) ∧ w'.cell? ⟨(ad219.add ((x3_1).toNat * 11)).block, (ad219.add ((x3_1).toNat * 11)).off + 1, none⟩ = some (.bool ((rd_T109 l0_1 x3_1).f1)) ∧ w'.cell? ⟨(ad219.add ((x3_1).toNat * 11)).block, (ad219.add ((x3_1).toNat * 11)).off + 2, none⟩ = some (.int .i64 ((rd_T109 l0_1 x3_1).f2.f0)) ∧ w'.cell? ⟨(ad219.add ((x3_1).toNat * 11)).block, (ad219.add ((x3_1).toNat * 11)).off + 3, none⟩ = some (.int .i64 ((rd_T109 l0_1 x3_1).f2.f1)) ∧ w'.cell? ⟨(ad219.add ((x3_1).toNat * 11)).block, (ad219.add ((x3_1).toNat * 11)).off + 4, none⟩ = some (.int .i64 ((rd_T109 l0_1 x3_1).f2.f2)) ∧ w'.cell? ⟨(ad219.add ((x3_1).toNat * 11)).block, (ad219.add ((x3_1).toNat * 11)).off + 5, none⟩ = some (.int .i64 ((rd_T109 l0_1 x3_1).f2.f3)) ∧ w'.cell? ⟨(ad219.add ((x3_1).toNat * 11)).block, (ad219.add ((x3_1).toNat * 11)).off + 6, none⟩ = some (.int .i64 ((rd_T109 l0_1 x3_1).f3)) ∧ w'.cell? ⟨(ad219.add ((x3_1).toNat * 11)).block, (ad219.add ((x3_1).toNat * 11)).off + 7, none⟩ = some (.int .i64 ((rd_T109 l0_1 x3_1).f4)) ∧ w'.cell? ⟨(ad219.add ((x3_1).toNat * 11)).block, (ad219.add ((x3_1).toNat * 11)).off + 8, none⟩ = some (.int .i64 ((rd_T109 l0_1 x3_1).f5)) ∧ w'.cell? ⟨(ad219.add ((x3_1).toNat * 11)).block, (ad219.add ((x3_1).toNat * 11)).off + 9, none⟩ = some (.int .i64 ((rd_T109 l0_1 x3_1).f6)) ∧ w'.cell? ⟨(ad219.add ((x3_1).toNat * 11)).block, (ad219.add ((x3_1).toNat * 11)).off + 10, none⟩ = some (.bool ((rd_T109 l0_1 x3_1).f7))) (ds := []) #[U,U,U,U,U,U,U,U,U,U,U,U,U,U,U] (by kernel_rfl) rfl rfl ⟨(blk_cell BK220.out 0).trans rfl, (blk_cell BK220.out 1).trans rfl, (blk_cell BK220.out 2).trans rfl, (blk_cell BK220.out 3).trans rfl, (blk_cell BK220.out 4).trans rfl, (blk_cell BK220.out 5).trans rfl, (blk_cell BK220.out 6).trans rfl, (blk_cell BK220.out 7).trans rfl, (blk_cell BK220.out 8).trans rfl, (blk_cell BK220.out 9).trans rfl, (blk_cell BK220.out 10).trans rfl, (blk_cell BK218.out 0).trans rfl, (blk_cell BK218.out 1).trans rfl, ((HB.out.cell (World.block_lt_of_cell? w _ hw221_0)).trans hw221_0), ((HB.out.cell (World.block_lt_of_cell? w _ hw221_1)).trans hw221_1), ((HB.out.cell (World.block_lt_of_cell? w _ hw221_2)).trans hw221_2), ((HB.out.cell (World.block_lt_of_cell? w _ hw221_3)).trans hw221_3), ((HB.out.cell (World.block_lt_of_cell? w _ hw221_4)).trans hw221_4), ((HB.out.cell (World.block_lt_of_cell? w _ hw221_5)).trans hw221_5), ((HB.out.cell (World.block_lt_of_cell? w _ hw221_6)).trans hw221_6), ((HB.out.cell (World.block_lt_of_cell? w _ hw221_7)).trans hw221_7), ((HB.out.cell (World.block_lt_of_cell? w _ hw221_8)).trans hw221_8), ((HB.out.cell (World.block_lt_of_cell? w _ hw221_9)).trans hw221_9), ((HB.out.cell (World.block_lt_of_cell? w _ hw221_10)).trans hw221_10)⟩ (fun hHeld => ?_); refine with_tabW impl_Bridge_rootPort.tab6 impl_Bridge_rootPort.bits6 (fun HT_ HW_ => ?_)
     generalize wc.drew = w35 at BK218 BK220 HB hx221_0 hx221_1 hx221_10 hx221_2 hx221_3 hx221_4 hx221_5 hx221_6 hx221_7 hx221_8 hx221_9 hHeld ⊢
     refine pure_ (i := 0) (N := some 50) (v := ?_) (a' := ?_) #[Y,U,U,U,U,U,U,U,U,U,U,U,U,U,U] rfl rfl (any_of HT_.out (by kernel_rfl)) (fun _ _ _ h => h) (Or.inl ⟨by rfl, ?_⟩) ?_ ?_
     rotate_left
     ·intro w'
      go_simp
      with_reducible rfl
     rotate_left
     ·simp only [Act.put, sA, sZ, sS, i64_w, i32_w]
      rfl
     refine pure_ (i := 1) (N := some 51) (v := ?_) (a' := ?_) #[Y,Y,U,U,U,U,U,U,U,U,U,U,U,U,U] rfl rfl (any_of HT_.out (by kernel_rfl)) (fun _ _ _ h => h) (Or.inl ⟨by rfl, ?_⟩) ?_ ?_
     rotate_left
     ·intro w'
      go_simp
      with_reducible rfl
     rotate_left
     ·simp only [Act.put, sA, sZ, sS, i64_w, i32_w]
      rfl
     refine pure_ (i := 2) (N := some 52) (v := ?_) (a' := ?_) #[Y,Y,Y,U,U,U,U,U,U,U,U,U,U,U,U] rfl rfl (any_of HT_.out (by kernel_rfl)) (fun _ _ _ h => h) (Or.inl ⟨by rfl, ?_⟩) ?_ ?_
     rotate_left
     ·intro w'
      go_simp
      with_reducible rfl
     rotate_left
     ·simp only [Act.put, sA, sZ, sS, i64_w, i32_w]
      rfl
     refine pure_ (i := 3) (N := some 53) (v := ?_) (a' := ?_) #[Y,Y,Y,Y,U,U,U,U,U,U,U,U,U,U,U] rfl rfl (any_of HT_.out (by kernel_rfl)) (fun _ _ _ h => h) (Or.inl ⟨by rfl, ?_⟩) ?_ ?_
     rotate_left
     ·intro w'
      go_simp
      with_reducible rfl
     rotate_left
     ·simp only [Act.put, sA, sZ, sS, i64_w, i32_w]
      rfl
     refine pure_ (i := 5) (N := some 55) (v := ?_) (a' := ?_) #[Y,Y,Y,Y,U,Y,U,U,U,U,U,U,U,U,U] rfl rfl (any_of HT_.out (by kernel_rfl)) (fun _ _ _ h => h) (Or.inl ⟨by rfl, ?_⟩) ?_ ?_
     rotate_left
     ·intro w'
      go_simp
      with_reducible rfl
     rotate_left
     ·simp only [Act.put, sA, sZ, sS, i64_w, i32_w]
      rfl
     refine pure_ (i := 6) (N := some 56) (v := ?_) (a' := ?_) #[Y,Y,Y,Y,U,Y,Y,U,U,U,U,U,U,U,U] rfl rfl (any_of HT_.out (by kernel_rfl)) (fun _ _ _ h => h) (Or.inl ⟨by rfl, ?_⟩) ?_ ?_
     rotate_left
     ·intro w'
      go_simp
      with_reducible rfl
     rotate_left
     ·simp only [Act.put, sA, sZ, sS, i64_w, i32_w]
      rfl
     refine pure_ (i := 7) (N := some 57) (v := ?_) (a' := ?_) #[Y,Y,Y,Y,U,Y,Y,Y,U,U,U,U,U,U,U] rfl rfl (any_of HT_.out (by kernel_rfl)) (fun _ _ _ h => h) (Or.inl ⟨by rfl, ?_⟩) ?_ ?_
     rotate_left
     ·intro w'
      go_simp
      with_reducible rfl
     rotate_left
     ·simp only [Act.put, sA, sZ, sS, i64_w, i32_w]
      rfl
     refine pure_ (i := 9) (N := some 59) (v := ?_) (a' := ?_) #[Y,Y,Y,Y,U,Y,Y,Y,U,Y,U,U,U,U,U] rfl rfl (any_of HT_.out (by kernel_rfl)) (fun _ _ _ h => h) (Or.inl ⟨by rfl, ?_⟩) ?_ ?_
     rotate_left
     ·intro w'
      go_simp
      with_reducible rfl
     rotate_left
     ·simp only [Act.put, sA, sZ, sS, i64_w, i32_w]
      rfl
     refine take_ (i := 4) (N := some 54) (v := ?_) (a' := ?_) #[Y,Y,Y,Y,Y,Y,Y,Y,U,Y,U,U,U,U,U] rfl rfl (take_ofW HT_.out HW_.out (by kernel_rfl)) (fun _ _ _ h => h) (Or.inl ⟨by rfl, ?_⟩) hHeld ?_ ?_
     rotate_left
     ·rintro w' ⟨s0, s1, s2, s3, s4, s5, s6, s7, s8, s9, s10, s11, s12, s13, s14, s15, s16, s17, s18, s19, s20, s21, s22, s23⟩
      go_simp
      with_reducible rfl
     rotate_left
     ·simp only [Act.put, sA, sZ, sS, i64_w, i32_w]
      rfl
     refine take_ (i := 8) (N := some 58) (v := ?_) (a' := ?_) #[Y,Y,Y,Y,Y,Y,Y,Y,Y,Y,U,U,U,U,U] rfl rfl (take_ofW HT_.out HW_.out (by kernel_rfl)) (fun _ _ _ h => h) (Or.inl ⟨by rfl, ?_⟩) hHeld ?_ ?_
     rotate_left
     ·rintro w' ⟨s0, s1, s2, s3, s4, s5, s6, s7, s8, s9, s10, s11, s12, s13, s14, s15, s16, s17, s18, s19, s20, s21, s22, s23⟩
      go_simp
      with_reducible rfl
     rotate_left
     ·simp only [Act.put, sA, sZ, sS, i64_w, i32_w]
      rfl
     refine pure_ (i := 10) (N := some 60) (v := ?_) (a' := ?_) #[Y,Y,Y,Y,Y,Y,Y,Y,Y,Y,Y,U,U,U,U] rfl rfl (any_of HT_.out (by kernel_rfl)) (fun _ _ _ h => h) (Or.inl ⟨by rfl, ?_⟩) ?_ ?_
     rotate_left
     ·intro w'
      go_simp
      with_reducible rfl
     rotate_left
     ·simp only [Act.put, sA, sZ, sS, i64_w, i32_w]
      rfl
     refine pure_ (i := 11) (N := some 61) (v := ?_) (a' := ?_) #[Y,Y,Y,Y,Y,Y,Y,Y,Y,Y,Y,Y,U,U,U] rfl rfl (any_of HT_.out (by kernel_rfl)) (fun _ _ _ h => h) (Or.inl ⟨by rfl, ?_⟩) ?_ ?_
     rotate_left
     ·intro w'
      go_simp
      with_reducible rfl
     rotate_left
     ·simp only [Act.put, sA, sZ, sS, i64_w, i32_w]
      rfl
     refine take_ (i := 12) (N := some 62) (v := ?_) (a' := ?_) #[Y,Y,Y,Y,Y,Y,Y,Y,Y,Y,Y,Y,Y,U,U] rfl rfl (take_ofW HT_.out HW_.out (by kernel_rfl)) (fun _ _ _ h => h) (Or.inl ⟨by rfl, ?_⟩) hHeld ?_ ?_
     rotate_left
     ·rintro w' ⟨s0, s1, s2, s3, s4, s5, s6, s7, s8, s9, s10, s11, s12, s13, s14, s15, s16, s17, s18, s19, s20, s21, s22, s23⟩
      go_simp
      with_reducible rfl
     rotate_left
     ·simp only [Act.put, sA, sZ, sS, i64_w, i32_w]
      rfl
     refine one_ (i := 13) (N := some 63) #[Y,Y,Y,Y,Y,Y,Y,Y,Y,Y,Y,Y,Y,Y,U] rfl rfl (one_of HT_.out (by kernel_rfl)) (by decide) (fun K hK => ?_)
     refine goes_ Try.func120 (by kernel_rfl) rfl #[.agg #[.int .i64 ((rd_T109 l0_1 x11_1).f2.f0), .int .i64 ((rd_T109 l0_1 x11_1).f2.f1), .int .i64 ((rd_T109 l0_1 x11_1).f2.f2), .int .i64 ((rd_T109 l0_1 x11_1).f2.f3)], .agg #[.int .i64 ((rd_T109 l0_1 x3_1).f2.f0), .int .i64 ((rd_T109 l0_1 x3_1).f2.f1), .int .i64 ((rd_T109 l0_1 x3_1).f2.f2), .int .i64 ((rd_T109 l0_1 x3_1).f2.f3)]] (by rfl) rfl rfl (by (try simp only [List.map_toArray, List.map_cons, List.map_nil]); first | done | rfl | (simp only [List.length_drop, List.length_take]; rfl)) ?_
     with_reducible refine (impl_Better.calls kj6 ((rd_T109 l0_1 x11_1).f2.f0) ((rd_T109 l0_1 x11_1).f2.f1) ((rd_T109 l0_1 x11_1).f2.f2) ((rd_T109 l0_1 x11_1).f2.f3) ((rd_T109 l0_1 x3_1).f2.f0) ((rd_T109 l0_1 x3_1).f2.f1) ((rd_T109 l0_1 x3_1).f2.f2) ((rd_T109 l0_1 x3_1).f2.f3) false _ A31.out).mono ?_
     rintro e w36 ⟨rfl, hb⟩
     refine ⟨_, rfl, ?_⟩
     have n0_ := aM (blk_below (g := gb) (o := .cells #[.int .i64 a0_0, .slice (some ad219) l0_1.length c0_1] 66 (0, 0)) (by (with_reducible repeat (first | refine blk_drewN ?_ _ | refine blk_drew ?_ | refine blk_alloc ?_ _)); exact BK218.out) hb)
     have n1_ := aM (blk_below (g := gb220) (o := .cells #[.bool ((rd_T109 l0_1 x11_1).f0), .bool ((rd_T109 l0_1 x11_1).f1), .int .i64 ((rd_T109 l0_1 x11_1).f2.f0), .int .i64 ((rd_T109 l0_1 x11_1).f2.f1), .int .i64 ((rd_T109 l0_1 x11_1).f2.f2), .int .i64 ((rd_T109 l0_1 x11_1).f2.f3), .int .i64 ((rd_T109 l0_1 x11_1).f3), .int .i64 ((rd_T109 l0_1 x11_1).f4), .int .i64 ((rd_T109 l0_1 x11_1).f5), .int .i64 ((rd_T109 l0_1 x11_1).f6), .bool ((rd_T109 l0_1 x11_1).f7)] 109 (0, 0)) (by (with_reducible repeat (first | refine blk_drewN ?_ _ | refine blk_drew ?_ | refine blk_alloc ?_ _)); exact BK220.out) hb)
     have n2_ := aM (below_step (by repeat (first | (with_reducible first | exact HB.out | apply below_alloc | apply pw_below_drewN | apply below_drew1 | refine below_set ?_ GE218.out | refine below_set ?_ GE220.out) | exact HB.out)) hb)
     clear BK218
     clear BK220
     clear HB
     have BK218 := n0_
     have BK220 := n1_
     have HB := n2_
     clear n0_ n1_ n2_
     (try clear hb)
     (try clear hb2)
     (try clear hk)
     (try clear hi)
     refine hK.out _ _ ⟨(blk_cell BK220.out 0).trans rfl, (blk_cell BK220.out 1).trans rfl, (blk_cell BK220.out 2).trans rfl, (blk_cell BK220.out 3).trans rfl, (blk_cell BK220.out 4).trans rfl, (blk_cell BK220.out 5).trans rfl, (blk_cell BK220.out 6).trans rfl, (blk_cell BK220.out 7).trans rfl, (blk_cell BK220.out 8).trans rfl, (blk_cell BK220.out 9).trans rfl, (blk_cell BK220.out 10).trans rfl, (blk_cell BK218.out 0).trans rfl, (blk_cell BK218.out 1).trans rfl, ((HB.out.cell (World.block_lt_of_cell? w _ hw221_0)).trans hw221_0), ((HB.out.cell (World.block_lt_of_cell? w _ hw221_1)).trans hw221_1), ((HB.out.cell (World.block_lt_of_cell? w _ hw221_2)).trans hw221_2), ((HB.out.cell (World.block_lt_of_cell? w _ hw221_3)).trans hw221_3), ((HB.out.cell (World.block_lt_of_cell? w _ hw221_4)).trans hw221_4), ((HB.out.cell (World.block_lt_of_cell? w _ hw221_5)).trans hw221_5), ((HB.out.cell (World.block_lt_of_cell? w _ hw221_6)).trans hw221_6), ((HB.out.cell (World.block_lt_of_cell? w _ hw221_7)).trans hw221_7), ((HB.out.cell (World.block_lt_of_cell? w _ hw221_8)).trans hw221_8), ((HB.out.cell (World.block_lt_of_cell? w _ hw221_9)).trans hw221_9), ((HB.out.cell (World.block_lt_of_cell? w _ hw221_10)).trans hw221_10)⟩ (fun hHeld => ?_)
     clear hK K
     refine norm_ (a' := ?_) ?_ ?_
     rotate_left
     ·show Act.put _ (some 63) _ = _
      simp only [Act.put, sA, sZ, sS, i64_w, i32_w]
      rfl
     refine pure_ (i := 14) (N := some 64) (v := ?_) (a' := ?_) #[Y,Y,Y,Y,Y,Y,Y,Y,Y,Y,Y,Y,Y,Y,Y] rfl rfl (any_of HT_.out (by kernel_rfl)) (fun _ _ _ h => h) (Or.inl ⟨by rfl, ?_⟩) ?_ ?_
     rotate_left
     ·intro w'
      go_simp
      with_reducible rfl
     rotate_left
     ·simp only [Act.put, sA, sZ, sS, i64_w, i32_w]
      rfl
     refine done_ (done_of HT_.out (by kernel_rfl)) ?_
     try go_wp2
     go_roundg kj6
     case measure => have := HK1.out; have := HJ6.out; omega
     case rel => (try rw [← Nbq11.out]); exact ⟨(x3_1), (wrap64 (x11_1 + 1)), (by first | rfl | (simp; done) | (simp [*]; done)), (by first | rfl | (simp; done) | (simp [*]; done)), H', ⟨by have := HK1.out; have := HJ6.out; omega⟩, ⟨by (with_reducible repeat (first | refine blk_drewN ?_ _ | refine blk_drew ?_ | refine blk_alloc ?_ _)); exact BK218.out⟩, ⟨by repeat (first | (with_reducible first | exact HB.out | apply below_alloc | apply pw_below_drewN | apply below_drew1 | refine below_set ?_ GE218.out | refine below_set ?_ GE220.out) | exact HB.out)⟩⟩

end Go.Proofs.Ytjmkbmpfknhcdaa.PFnExactOwn
