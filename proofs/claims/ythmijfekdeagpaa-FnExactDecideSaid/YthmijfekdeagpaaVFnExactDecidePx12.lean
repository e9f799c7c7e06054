/- Of the proof of laws.FnExactDecide: a part. No condition beyond what its theorems say. -/
import Derived.Test.YthmijfekdeagpaaVFnExactDecideWTight
import Derived.Test.YthmijfekdeagpaaVFnExactDecidePx0
import Derived.Test.YthmijfekdeagpaaVFnExactDecidePx11
namespace Go.Proofs.Ythmijfekdeagpaa.PFnExactDecide
open Go.RowKit Go.Proofs.YthmijfekdeagpaaW.PrintWords Go.Proofs.YthmijfekdeagpaaW.PrintLast Go.Proofs.YthmijfekdeagpaaW.PrintMore
attribute [local go_sem] max2_int min2_int max_two min_two max_three min_three max_four min_four   -- for this text's walks alone
set_option linter.unusedVariables false
set_option linter.unusedSimpArgs false

mutual
def impl_Bridge_rootPort.l0 : Nat → Int → List (S79) → Int → Int → Int → List (S79) → Option (Int)
 | 0, _, _, _, _, _, _ => none
 | k + 1, x3, x9, x10, x11, x330000, x330001 => if x11 < x10 then (if 0 ≤ x11 then (if x11 < (x9.length : Int) then (if ((rd_T79 x9 x11).f1 = true) then (if ((rd_T79 x9 x11).f2.f2) = x330000 then (impl_Bridge_rootPort.j1 k x3 x11 x9 x10 x11 true x330000 x330001 ((rd_T79 x9 x11).f0) ((rd_T79 x9 x11).f1) ((rd_T79 x9 x11).f2.f0) ((rd_T79 x9 x11).f2.f1) ((rd_T79 x9 x11).f2.f2) ((rd_T79 x9 x11).f2.f3) ((rd_T79 x9 x11).f3) ((rd_T79 x9 x11).f4) ((rd_T79 x9 x11).f5) ((rd_T79 x9 x11).f6) ((rd_T79 x9 x11).f7)) else (if ((rd_T79 x9 x11).f2.f0) ≥ x330000 then (impl_Bridge_rootPort.j1 k x3 x11 x9 x10 x11 true x330000 x330001 ((rd_T79 x9 x11).f0) ((rd_T79 x9 x11).f1) ((rd_T79 x9 x11).f2.f0) ((rd_T79 x9 x11).f2.f1) ((rd_T79 x9 x11).f2.f2) ((rd_T79 x9 x11).f2.f3) ((rd_T79 x9 x11).f3) ((rd_T79 x9 x11).f4) ((rd_T79 x9 x11).f5) ((rd_T79 x9 x11).f6) ((rd_T79 x9 x11).f7)) else (if ((rd_T79 x9 x11).f2.f1) ≥ 20 then (impl_Bridge_rootPort.j1 k x3 x11 x9 x10 x11 true x330000 x330001 ((rd_T79 x9 x11).f0) ((rd_T79 x9 x11).f1) ((rd_T79 x9 x11).f2.f0) ((rd_T79 x9 x11).f2.f1) ((rd_T79 x9 x11).f2.f2) ((rd_T79 x9 x11).f2.f3) ((rd_T79 x9 x11).f3) ((rd_T79 x9 x11).f4) ((rd_T79 x9 x11).f5) ((rd_T79 x9 x11).f6) ((rd_T79 x9 x11).f7)) else (impl_Bridge_rootPort.j1 k x3 x11 x9 x10 x11 (decide (((rd_T79 x9 x11).f3) ≥ 8)) x330000 x330001 ((rd_T79 x9 x11).f0) ((rd_T79 x9 x11).f1) ((rd_T79 x9 x11).f2.f0) ((rd_T79 x9 x11).f2.f1) ((rd_T79 x9 x11).f2.f2) ((rd_T79 x9 x11).f2.f3) ((rd_T79 x9 x11).f3) ((rd_T79 x9 x11).f4) ((rd_T79 x9 x11).f5) ((rd_T79 x9 x11).f6) ((rd_T79 x9 x11).f7))))) else (impl_Bridge_rootPort.j1 k x3 x11 x9 x10 x11 true x330000 x330001 ((rd_T79 x9 x11).f0) ((rd_T79 x9 x11).f1) ((rd_T79 x9 x11).f2.f0) ((rd_T79 x9 x11).f2.f1) ((rd_T79 x9 x11).f2.f2) ((rd_T79 x9 x11).f2.f3) ((rd_T79 x9 x11).f3) ((rd_T79 x9 x11).f4) ((rd_T79 x9 x11).f5) ((rd_T79 x9 x11).f6) ((rd_T79 x9 x11).f7))) else (none)) else (none)) else (some x3)
def impl_Bridge_rootPort.j1 : Nat → Int → Int → List (S79) → Int → Int → Bool → Int → List (S79) → Bool → Bool → Int → Int → Int → Int → Int → Int → Int → Int → Bool → Option (Int)
 | 0, _, _, _, _, _, _, _, _, _, _, _, _, _, _, _, _, _, _, _ => none
 | k + 1, x3, x4, x9, x10, x11, x49, x330000, x330001, x332000, x332001, x332002, x332003, x332004, x332005, x332006, x332007, x332008, x332009, x332010 => if x49 = true then (impl_Bridge_rootPort.l0 k x3 x9 x10 (wrap64 (x11 + 1)) x330000 x330001) else (if x3 < 0 then (impl_Bridge_rootPort.l0 k x4 x9 x10 (wrap64 (x11 + 1)) x330000 x330001) else (if 0 ≤ x3 then (if x3 < (x330001.length : Int) then ((impl_Better.f k x332002 x332003 x332004 x332005 ((rd_T79 x330001 x3).f2.f0) ((rd_T79 x330001 x3).f2.f1) ((rd_T79 x330001 x3).f2.f2) ((rd_T79 x330001 x3).f2.f3)).bind fun t333 => (if t333 = true then (impl_Bridge_rootPort.l0 k x4 x9 x10 (wrap64 (x11 + 1)) x330000 x330001) else (impl_Bridge_rootPort.l0 k x3 x9 x10 (wrap64 (x11 + 1)) x330000 x330001))) else (none)) else (none)))
end
def impl_Bridge_rootPort.f (k : Nat) (a0_0 : Int) (l0_1 : List (S79)) : Option (Int) := impl_Bridge_rootPort.l0 k (-1) l0_1 (l0_1.length : Int) 0 a0_0 l0_1
theorem impl_Bridge_rootPort.mono_l : ∀ k, (∀ y0 y1 y2 y3 y4 y5, LeO (impl_Bridge_rootPort.l0 k y0 y1 y2 y3 y4 y5) (impl_Bridge_rootPort.l0 (k + 1) y0 y1 y2 y3 y4 y5)) ∧ (∀ y0 y1 y2 y3 y4 y5 y6 y7 y8 y9 y10 y11 y12 y13 y14 y15 y16 y17 y18, LeO (impl_Bridge_rootPort.j1 k y0 y1 y2 y3 y4 y5 y6 y7 y8 y9 y10 y11 y12 y13 y14 y15 y16 y17 y18) (impl_Bridge_rootPort.j1 (k + 1) y0 y1 y2 y3 y4 y5 y6 y7 y8 y9 y10 y11 y12 y13 y14 y15 y16 y17 y18))
 | 0 => ⟨fun _ _ _ _ _ _ r h => by simp [impl_Bridge_rootPort.l0] at h, fun _ _ _ _ _ _ _ _ _ _ _ _ _ _ _ _ _ _ _ r h => by simp [impl_Bridge_rootPort.j1] at h⟩
 | k + 1 => by
  obtain ⟨ih0, ih1⟩ := impl_Bridge_rootPort.mono_l k
  refine ⟨?_, ?_⟩
  ·intro y0 y1 y2 y3 y4 y5
   unfold impl_Bridge_rootPort.l0
   repeat' first
   | (with_reducible exact ih0 _ _ _ _ _ _)
   | (with_reducible exact ih1 _ _ _ _ _ _ _ _ _ _ _ _ _ _ _ _ _ _ _)
   | (with_reducible exact impl_Better.mono _ _ _ _ _ _ _ _ _)
   | (with_reducible exact LeO.refl _)
   | (with_reducible exact LeO.none _)
   | (with_reducible refine LeO.ite ?_ ?_)
   | (with_reducible refine LeO.bind ?_ (fun _ => ?_))
   | exact ih0 _ _ _ _ _ _
   | exact ih1 _ _ _ _ _ _ _ _ _ _ _ _ _ _ _ _ _ _ _
   | exact impl_Better.mono _ _ _ _ _ _ _ _ _
   | exact LeO.none _
   | refine LeO.ite ?_ ?_
   | refine LeO.bind ?_ (fun _ => ?_)
  ·intro y0 y1 y2 y3 y4 y5 y6 y7 y8 y9 y10 y11 y12 y13 y14 y15 y16 y17 y18
   unfold impl_Bridge_rootPort.j1
   repeat' first
   | (with_reducible exact ih0 _ _ _ _ _ _)
   | (with_reducible exact ih1 _ _ _ _ _ _ _ _ _ _ _ _ _ _ _ _ _ _ _)
   | (with_reducible exact impl_Better.mono _ _ _ _ _ _ _ _ _)
   | (with_reducible exact LeO.refl _)
   | (with_reducible exact LeO.none _)
   | (with_reducible refine LeO.ite ?_ ?_)
   | (with_reducible refine LeO.bind ?_ (fun _ => ?_))
   | exact ih0 _ _ _ _ _ _
   | exact ih1 _ _ _ _ _ _ _ _ _ _ _ _ _ _ _ _ _ _ _
   | exact impl_Better.mono _ _ _ _ _ _ _ _ _
   | exact LeO.none _
   | refine LeO.ite ?_ ?_
   | refine LeO.bind ?_ (fun _ => ?_)
theorem impl_Bridge_rootPort.mono : ∀ a0 a1 k, LeO (impl_Bridge_rootPort.f k a0 a1) (impl_Bridge_rootPort.f (k + 1) a0 a1) := by
 intro a0 a1 k
 obtain ⟨ih0, ih1⟩ := impl_Bridge_rootPort.mono_l k
 unfold impl_Bridge_rootPort.f
 repeat' first
   | (with_reducible exact ih0 _ _ _ _ _ _)
   | (with_reducible exact ih1 _ _ _ _ _ _ _ _ _ _ _ _ _ _ _ _ _ _ _)
   | (with_reducible exact impl_Better.mono _ _ _ _ _ _ _ _ _)
   | (with_reducible exact LeO.refl _)
   | (with_reducible exact LeO.none _)
   | (with_reducible refine LeO.ite ?_ ?_)
   | (with_reducible refine LeO.bind ?_ (fun _ => ?_))
   | exact ih0 _ _ _ _ _ _
   | exact ih1 _ _ _ _ _ _ _ _ _ _ _ _ _ _ _ _ _ _ _
   | exact impl_Better.mono _ _ _ _ _ _ _ _ _
   | exact LeO.none _
   | refine LeO.ite ?_ ?_
   | refine LeO.bind ?_ (fun _ => ?_)
def impl_Bridge_rootPort.T5 : Bool × List (List Nat × List Nat) := (true, [([], []), ([0], [0]), ([1], [1]), ([2], [2]), ([3], [3]), ([4, 3], [3, 4]), ([5, 3], [3, 5]), ([3], [3]), ([7, 3], [3, 7]), ([8, 3], [3, 8]), ([9, 3], [3, 9]), ([6, 10, 3], [3, 6, 10]), ([3, 11], [3, 11]), ([12, 3], [12]), ([13], [13]), ([14, 13], [13, 14]), ([15, 13], [13, 15]), ([13], [13]), ([17, 13], [13, 17]), ([18, 13], [13, 18]), ([19, 13], [13, 19]), ([16, 20, 13], [13, 16, 20]), ([13, 21], [13, 21]), ([22, 13], [22]), ([23], [23]), ([24, 23], [23, 24]), ([25, 23], [23, 25]), ([26, 23], [23, 26]), ([23, 27], [23, 27]), ([28, 23], [28]), ([29], [29]), ([30, 29], [29, 30]), ([31, 29], [29, 31]), ([29, 32], [29, 32])])
def impl_Bridge_rootPort.B5 : List Nat := [0, 1, 3, 7, 15, 31, 63, 15, 143, 399, 911, 2047, 4095, 8191, 16383, 32767, 65535, 16383, 147455, 409599, 933887, 2097151, 4194303, 8388607, 16777215, 33554431, 67108863, 134217727, 268435455, 536870911, 1073741823, 2147483647, 4294967295, 8589934591]
theorem impl_Bridge_rootPort.tab5 : rtab .any (opsOf Try.f118 5) = impl_Bridge_rootPort.T5 := by kernel_rfl
theorem impl_Bridge_rootPort.bits5 : waitsOk impl_Bridge_rootPort.T5.2 impl_Bridge_rootPort.B5 = true := by kernel_rfl
def impl_Bridge_rootPort.T6 : Bool × List (List Nat × List Nat) := (true, [([], []), ([0], [0]), ([1], [1]), ([2], [2]), ([3, 2], [2, 3]), ([2], [2]), ([5, 2], [2, 5]), ([6, 2], [2, 6]), ([7, 2], [2, 7]), ([2], [2]), ([8, 9, 2], [2, 8, 9]), ([10, 2], [2, 10]), ([11, 2], [2, 11]), ([4, 12, 2, 2], [2, 4, 12]), ([2, 13], [2, 13])])
def impl_Bridge_rootPort.B6 : List Nat := [0, 1, 3, 7, 15, 7, 39, 103, 231, 7, 999, 2023, 4071, 8191, 16383]
theorem impl_Bridge_rootPort.tab6 : rtab .any (opsOf Try.f118 6) = impl_Bridge_rootPort.T6 := by kernel_rfl
theorem impl_Bridge_rootPort.bits6 : waitsOk impl_Bridge_rootPort.T6.2 impl_Bridge_rootPort.B6 = true := by kernel_rfl
set_option maxHeartbeats 60000000 in
set_option maxRecDepth 100000 in
theorem impl_Bridge_rootPort.calls (k : Nat) (a0_0 : Int) (A0_1 : Option Addr) (c0_1 : Nat) (l0_1 : List (S79)) (r : Int) (w : World) (gb : Nat) (hBK : w.heap[gb]? = some (.cells #[.int .i64 a0_0, .slice A0_1 l0_1.length c0_1] 28 (0, 0))) (hr0_1 : Kd.C k79 w A0_1 l0_1.length l0_1) (hc0_1 : l0_1.length ≤ c0_1) (h : impl_Bridge_rootPort.f k a0_0 l0_1 = some r) :
  Calls Try.prog 118 #[.pointer (some ⟨gb, 0, none⟩)] w fun e w' => e = .returned (.int .i64 r) ∧ Below w.heap.size w w' := by
 have hu28 := Try.underlying28
 have hu79 := Try.underlying79
 have hu73 := Try.underlying73
 have HR0_1 := aM hr0_1
 have HC0_1 := aM hc0_1
 clear hr0_1 hc0_1
 have HB := aM (Below.refl w.heap.size w)
 have H : (impl_Bridge_rootPort.l0 k (-1) l0_1 (l0_1.length : Int) 0 a0_0 l0_1) = some r := h
 clear h
 have H' := aM H
 clear H
 go_enter Try.func118, Try.ntmps118
 have BK329 := aM hBK
 clear hBK
 have hcz3 := cA2 BK329.out
 go_wp2
 go_loopg [3, 11] k (fun kq v3 v11 w' => ∃ (x3_1 : Int) (x11_1 : Int), v3 = .int .i64 x3_1 ∧ v11 = .int .i64 x11_1 ∧ Aside0 (impl_Bridge_rootPort.l0 kq x3_1 l0_1 (l0_1.length : Int) x11_1 a0_0 l0_1 = some r) ∧ Aside0 (kq ≤ k) ∧ Aside0 (w'.heap[gb]? = some (.cells #[.int .i64 a0_0, (.slice A0_1 l0_1.length c0_1)] 28 (0, 0))) ∧ Aside0 (Below w.heap.size w w'))
 case atStart => exact ⟨((-1)), (0), xE, xE, H', ⟨Nat.le_refl _⟩, ⟨by (with_reducible repeat (first | refine blk_drewN ?_ _ | refine blk_drew ?_ | refine blk_alloc ?_ _)); exact BK329.out⟩, ⟨bl HB.out⟩⟩
 case round =>
  clear H'
  try clear c1
  try clear p2
  try clear hcz3
  try clear hcz3_1
  try clear hfz3_0
  try clear hfz3_1
  obtain ⟨x3_1, x11_1, rfl, rfl, HA, HK1, BK329, HB⟩ := hrel
  cases gk with
  | zero => exact absurd HA.out (by simp [impl_Bridge_rootPort.l0])
  | succ k1 =>
   have H := HA.out
   clear HA
   simp only [impl_Bridge_rootPort.l0] at H
   by_cases c4 : x11_1 < (l0_1.length : Int)
   case neg =>
    rw [if_neg c4] at H
    have c4b0 : decide (x11_1 < (l0_1.length : Int)) = false := decide_eq_false c4
    clear c4
    obtain rfl := Option.some.inj H
    go_wp2
    go_ret
    exact ⟨xW, bl HB.out⟩
   rw [if_pos c4] at H
   have c4b0 : decide (x11_1 < (l0_1.length : Int)) = true := decide_eq_true c4
   clear c4
   by_cases c5 : 0 ≤ x11_1
   case neg =>
    rw [if_neg c5] at H
    exact absurd H (by simp)
   rw [if_pos c5] at H
   have c5b0 : decide (0 ≤ x11_1) = true := decide_eq_true c5
   clear c5
   by_cases c6 : x11_1 < (l0_1.length : Int)
   case neg =>
    rw [if_neg c6] at H
    exact absurd H (by simp)
   rw [if_pos c6] at H
   have c6b0 : decide (x11_1 < (l0_1.length : Int)) = true := decide_eq_true c6
   clear c6
   have HC7 := aM H
   clear H
   have p330 : 0 ≤ (x11_1 : Int) := of_decide_eq_true (by first | (with_reducible assumption) | assumption)
   have q330 : x11_1 < (l0_1.length : Int) := of_decide_eq_true (by first | (with_reducible assumption) | assumption)
   obtain ⟨ad330, e330, hx330_0, hx330_1, hx330_2, hx330_3, hx330_4, hx330_5, hx330_6, hx330_7, hx330_8, hx330_9, hx330_10⟩ := at_T79 HR0_1.out x11_1 p330 q330
   cases e330
   replace hx330_0 := xB HB hx330_0
   replace hx330_1 := xB HB hx330_1
   replace hx330_2 := xB HB hx330_2
   replace hx330_3 := xB HB hx330_3
   replace hx330_4 := xB HB hx330_4
   replace hx330_5 := xB HB hx330_5
   replace hx330_6 := xB HB hx330_6
   replace hx330_7 := xB HB hx330_7
   replace hx330_8 := xB HB hx330_8
   replace hx330_9 := xB HB hx330_9
   replace hx330_10 := xB HB hx330_10
   replace p330 := eq_true p330
   replace q330 := eq_true q330
   go_upto_region 5 with (first | ((with_reducible refine gD (N := 5) rfl ?_); refine bE (N := 5) (cs := #[.bool false, .bool false, .int .i64 0, .int .i64 0, .int .i64 0, .int .i64 0, .int .i64 0, .int .i64 0, .int .i64 0, .int .i64 0, .bool false]) (t := 79) ?_; intro gb331 hg w8 hbox hb; have BK331 := aM (hbox); have GW331 := gE hg (below_size (bl HB.out)); have GE331 := gE hg (below_size (bl HB.out)); have NB329_331 := nL hg (blk_lt (bk BK329.out)); have NB331_329 := nG hg (blk_lt (bk BK329.out)); replace BK329 := aM (bB (bk BK329.out) hb); replace HB := aM (bS (bl HB.out) hb); clear hb hbox hg; have hnb9 := NB331_329.out; have hnc9 := NB329_331.out; have hcz10 := cA11 BK331.out))
   (try simp only [Act.put, sA, sZ, sS])
   go_cut [49] (fun v49 wc => ∃ (kq : Nat) (x49_6 : Bool), v49 = .bool x49_6 ∧ Aside0 (impl_Bridge_rootPort.j1 kq x3_1 x11_1 l0_1 (l0_1.length : Int) x11_1 x49_6 a0_0 l0_1 ((rd_T79 l0_1 x11_1).f0) ((rd_T79 l0_1 x11_1).f1) ((rd_T79 l0_1 x11_1).f2.f0) ((rd_T79 l0_1 x11_1).f2.f1) ((rd_T79 l0_1 x11_1).f2.f2) ((rd_T79 l0_1 x11_1).f2.f3) ((rd_T79 l0_1 x11_1).f3) ((rd_T79 l0_1 x11_1).f4) ((rd_T79 l0_1 x11_1).f5) ((rd_T79 l0_1 x11_1).f6) ((rd_T79 l0_1 x11_1).f7) = some r) ∧ Aside0 (kq ≤ k1) ∧ Aside0 (wc.heap[gb]? = some (.cells #[.int .i64 a0_0, (.slice (some ad330) l0_1.length c0_1)] 28 (0, 0))) ∧ Aside0 (wc.heap[gb331]? = some (.cells #[.bool ((rd_T79 l0_1 x11_1).f0), .bool ((rd_T79 l0_1 x11_1).f1), .int .i64 ((rd_T79 l0_1 x11_1).f2.f0), .int .i64 ((rd_T79 l0_1 x11_1).f2.f1), .int .i64 ((rd_T79 l0_1 x11_1).f2.f2), .int .i64 ((rd_T79 l0_1 x11_1).f2.f3), .int .i64 ((rd_T79 l0_1 x11_1).f3), .int .i64 ((rd_T79 l0_1 x11_1).f4), .int .i64 ((rd_T79 l0_1 x11_1).f5), .int .i64 ((rd_T79 l0_1 x11_1).f6), .bool ((rd_T79 l0_1 x11_1).f7)] 79 (0, 0))) ∧ Aside0 (Below w.heap.size w wc))
   case first =>
    have H := HC7.out
    clear HC7
    obtain ⟨bq11, hbq11⟩ : ∃ b_ : Bool, b_ = ((rd_T79 l0_1 x11_1).f1) := ⟨_, rfl⟩
    replace H : (if (bq11 = true) then (if ((rd_T79 l0_1 x11_1).f2.f2) = a0_0 then (impl_Bridge_rootPort.j1 k1 x3_1 x11_1 l0_1 (l0_1.length : Int) x11_1 true a0_0 l0_1 ((rd_T79 l0_1 x11_1).f0) bq11 ((rd_T79 l0_1 x11_1).f2.f0) ((rd_T79 l0_1 x11_1).f2.f1) ((rd_T79 l0_1 x11_1).f2.f2) ((rd_T79 l0_1 x11_1).f2.f3) ((rd_T79 l0_1 x11_1).f3) ((rd_T79 l0_1 x11_1).f4) ((rd_T79 l0_1 x11_1).f5) ((rd_T79 l0_1 x11_1).f6) ((rd_T79 l0_1 x11_1).f7)) else (if ((rd_T79 l0_1 x11_1).f2.f0) ≥ a0_0 then (impl_Bridge_rootPort.j1 k1 x3_1 x11_1 l0_1 (l0_1.length : Int) x11_1 true a0_0 l0_1 ((rd_T79 l0_1 x11_1).f0) bq11 ((rd_T79 l0_1 x11_1).f2.f0) ((rd_T79 l0_1 x11_1).f2.f1) ((rd_T79 l0_1 x11_1).f2.f2) ((rd_T79 l0_1 x11_1).f2.f3) ((rd_T79 l0_1 x11_1).f3) ((rd_T79 l0_1 x11_1).f4) ((rd_T79 l0_1 x11_1).f5) ((rd_T79 l0_1 x11_1).f6) ((rd_T79 l0_1 x11_1).f7)) else (if ((rd_T79 l0_1 x11_1).f2.f1) ≥ 20 then (impl_Bridge_rootPort.j1 k1 x3_1 x11_1 l0_1 (l0_1.length : Int) x11_1 true a0_0 l0_1 ((rd_T79 l0_1 x11_1).f0) bq11 ((rd_T79 l0_1 x11_1).f2.f0) ((rd_T79 l0_1 x11_1).f2.f1) ((rd_T79 l0_1 x11_1).f2.f2) ((rd_T79 l0_1 x11_1).f2.f3) ((rd_T79 l0_1 x11_1).f3) ((rd_T79 l0_1 x11_1).f4) ((rd_T79 l0_1 x11_1).f5) ((rd_T79 l0_1 x11_1).f6) ((rd_T79 l0_1 x11_1).f7)) else (impl_Bridge_rootPort.j1 k1 x3_1 x11_1 l0_1 (l0_1.length : Int) x11_1 (decide (((rd_T79 l0_1 x11_1).f3) ≥ 8)) a0_0 l0_1 ((rd_T79 l0_1 x11_1).f0) bq11 ((rd_T79 l0_1 x11_1).f2.f0) ((rd_T79 l0_1 x11_1).f2.f1) ((rd_T79 l0_1 x11_1).f2.f2) ((rd_T79 l0_1 x11_1).f2.f3) ((rd_T79 l0_1 x11_1).f3) ((rd_T79 l0_1 x11_1).f4) ((rd_T79 l0_1 x11_1).f5) ((rd_T79 l0_1 x11_1).f6) ((rd_T79 l0_1 x11_1).f7))))) else (impl_Bridge_rootPort.j1 k1 x3_1 x11_1 l0_1 (l0_1.length : Int) x11_1 true a0_0 l0_1 ((rd_T79 l0_1 x11_1).f0) bq11 ((rd_T79 l0_1 x11_1).f2.f0) ((rd_T79 l0_1 x11_1).f2.f1) ((rd_T79 l0_1 x11_1).f2.f2) ((rd_T79 l0_1 x11_1).f2.f3) ((rd_T79 l0_1 x11_1).f3) ((rd_T79 l0_1 x11_1).f4) ((rd_T79 l0_1 x11_1).f5) ((rd_T79 l0_1 x11_1).f6) ((rd_T79 l0_1 x11_1).f7))) = some r := by rw [← hbq11] at H; exact H
    have Nbq11 := aM hbq11
    clear hbq11
    (try rw [← Nbq11.out])
    by_cases c12 : (bq11 = true)
    case neg =>
     replace c12 := Bool.eq_false_iff.mpr c12
     subst c12
     have H1 : (impl_Bridge_rootPort.j1 k1 x3_1 x11_1 l0_1 (l0_1.length : Int) x11_1 true a0_0 l0_1 ((rd_T79 l0_1 x11_1).f0) false ((rd_T79 l0_1 x11_1).f2.f0) ((rd_T79 l0_1 x11_1).f2.f1) ((rd_T79 l0_1 x11_1).f2.f2) ((rd_T79 l0_1 x11_1).f2.f3) ((rd_T79 l0_1 x11_1).f3) ((rd_T79 l0_1 x11_1).f4) ((rd_T79 l0_1 x11_1).f5) ((rd_T79 l0_1 x11_1).f6) ((rd_T79 l0_1 x11_1).f7)) = some r := by rw [if_neg (show ¬ (false = true) by decide)] at H; exact H
     clear H
     have H := H1
     clear H1
     have H' := aM H
     clear H
     try go_wp2
     refine nW (fun W => Aside0 (W.heap[gb]? = some (.cells #[.int .i64 a0_0, .slice (some ad330) l0_1.length c0_1] 28 (0, 0))) ∧ Aside0 (W.heap[gb331]? = some (.cells #[.bool ((rd_T79 l0_1 x11_1).f0), .bool false, .int .i64 ((rd_T79 l0_1 x11_1).f2.f0), .int .i64 ((rd_T79 l0_1 x11_1).f2.f1), .int .i64 ((rd_T79 l0_1 x11_1).f2.f2), .int .i64 ((rd_T79 l0_1 x11_1).f2.f3), .int .i64 ((rd_T79 l0_1 x11_1).f3), .int .i64 ((rd_T79 l0_1 x11_1).f4), .int .i64 ((rd_T79 l0_1 x11_1).f5), .int .i64 ((rd_T79 l0_1 x11_1).f6), .bool ((rd_T79 l0_1 x11_1).f7)] 79 (0, 0))) ∧ Aside0 (Below w.heap.size w W)) ⟨⟨fm BK329.out⟩, ⟨pA11 (fm BK331.out)⟩, ⟨bl HB.out⟩⟩ ?_
     intro w24 nn_
     replace BK329 := nn_.1
     replace BK331 := nn_.2.1
     replace HB := nn_.2.2
     clear nn_
     replace BK329 := aM (blk_drew BK329.out)
     replace BK331 := aM (blk_drew BK331.out)
     replace HB := aM (below_drew1 HB.out)
     refine start_ (n := 34) (S := fun w' => cS11 w' gb331 (.bool ((rd_T79 l0_1 x11_1).f0)) (.bool false) (.int .i64 ((rd_T79 l0_1 x11_1).f2.f0)) (.int .i64 ((rd_T79 l0_1 x11_1).f2.f1)) (.int .i64 ((rd_T79 l0_1 x11_1).f2.f2)) (.int .i64 ((rd_T79 l0_1 x11_1).f2.f3)) (.int .i64 ((rd_T79 l0_1 x11_1).f3)) (.int .i64 ((rd_T79 l0_1 x11_1).f4)) (.int .i64 ((rd_T79 l0_1 x11_1).f5)) (.int .i64 ((rd_T79 l0_1 x11_1).f6)) (.bool ((rd_T79 l0_1 x11_1).f7))) (ds := []) (dn 34 0) (by kernel_rfl) rfl rfl ⟨cI BK331.out 0, cI BK331.out 1, cI BK331.out 2, cI BK331.out 3, cI BK331.out 4, cI BK331.out 5, cI BK331.out 6, cI BK331.out 7, cI BK331.out 8, cI BK331.out 9, cI BK331.out 10⟩ (fun hHeld => ?_); refine with_tabW impl_Bridge_rootPort.tab5 impl_Bridge_rootPort.bits5 (fun HT_ HW_ => ?_)
     generalize w24.drew = w25 at BK329 BK331 HB hHeld ⊢
     refine nY (N := some 16) HT_ ?_
     refine tY (N := some 17) HT_ HW_ hHeld ?_
     refine nY (N := some 18) HT_ ?_
     refine nY (N := some 19) HT_ ?_
     refine nU (N := some 20) HT_ ?_
     refine nU (N := some 21) HT_ ?_
     refine nU (N := some 22) HT_ ?_
     refine nU (N := some 23) HT_ ?_
     refine nU (N := some 24) HT_ ?_
     refine nU (N := some 25) HT_ ?_
     refine nU (N := some 26) HT_ ?_
     refine nU (N := some 27) HT_ ?_
     refine nY (N := some 28) HT_ ?_
     refine nY (N := some 29) HT_ ?_
     refine nU (N := some 30) HT_ ?_
     refine nU (N := some 31) HT_ ?_
     refine nU (N := some 32) HT_ ?_
     refine nU (N := some 33) HT_ ?_
     refine nU (N := some 34) HT_ ?_
     refine nU (N := some 35) HT_ ?_
     refine nU (N := some 36) HT_ ?_
     refine nU (N := some 37) HT_ ?_
     refine nY (N := some 38) HT_ ?_
     refine nY (N := some 39) HT_ ?_
     refine nU (N := some 40) HT_ ?_
     refine nU (N := some 41) HT_ ?_
     refine nU (N := some 42) HT_ ?_
     refine nU (N := some 43) HT_ ?_
     refine nY (N := some 44) HT_ ?_
     refine nY (N := some 45) HT_ ?_
     refine nU (N := some 46) HT_ ?_
     refine nU (N := some 47) HT_ ?_
     refine nU (N := some 48) HT_ ?_
     refine nY (N := some 49) HT_ ?_
     refine done_ (done_of HT_.out (by kernel_rfl)) ?_
     try go_wp2
     go_meet
     case rel => (try rw [← Nbq11.out]); exact ⟨_, (true), xE, H', ⟨by have := HK1.out; first | omega | exact Nat.le_refl _⟩, ⟨by (with_reducible repeat (first | refine blk_drewN ?_ _ | refine blk_drew ?_ | refine blk_alloc ?_ _)); exact BK329.out⟩, ⟨by (with_reducible repeat (first | refine blk_drewN ?_ _ | refine blk_drew ?_ | refine blk_alloc ?_ _)); exact BK331.out⟩, ⟨bl HB.out⟩⟩
    subst c12
    have H1 : (if ((rd_T79 l0_1 x11_1).f2.f2) = a0_0 then (impl_Bridge_rootPort.j1 k1 x3_1 x11_1 l0_1 (l0_1.length : Int) x11_1 true a0_0 l0_1 ((rd_T79 l0_1 x11_1).f0) true ((rd_T79 l0_1 x11_1).f2.f0) ((rd_T79 l0_1 x11_1).f2.f1) ((rd_T79 l0_1 x11_1).f2.f2) ((rd_T79 l0_1 x11_1).f2.f3) ((rd_T79 l0_1 x11_1).f3) ((rd_T79 l0_1 x11_1).f4) ((rd_T79 l0_1 x11_1).f5) ((rd_T79 l0_1 x11_1).f6) ((rd_T79 l0_1 x11_1).f7)) else (if ((rd_T79 l0_1 x11_1).f2.f0) ≥ a0_0 then (impl_Bridge_rootPort.j1 k1 x3_1 x11_1 l0_1 (l0_1.length : Int) x11_1 true a0_0 l0_1 ((rd_T79 l0_1 x11_1).f0) true ((rd_T79 l0_1 x11_1).f2.f0) ((rd_T79 l0_1 x11_1).f2.f1) ((rd_T79 l0_1 x11_1).f2.f2) ((rd_T79 l0_1 x11_1).f2.f3) ((rd_T79 l0_1 x11_1).f3) ((rd_T79 l0_1 x11_1).f4) ((rd_T79 l0_1 x11_1).f5) ((rd_T79 l0_1 x11_1).f6) ((rd_T79 l0_1 x11_1).f7)) else (if ((rd_T79 l0_1 x11_1).f2.f1) ≥ 20 then (impl_Bridge_rootPort.j1 k1 x3_1 x11_1 l0_1 (l0_1.length : Int) x11_1 true a0_0 l0_1 ((rd_T79 l0_1 x11_1).f0) true ((rd_T79 l0_1 x11_1).f2.f0) ((rd_T79 l0_1 x11_1).f2.f1) ((rd_T79 l0_1 x11_1).f2.f2) ((rd_T79 l0_1 x11_1).f2.f3) ((rd_T79 l0_1 x11_1).f3) ((rd_T79 l0_1 x11_1).f4) ((rd_T79 l0_1 x11_1).f5) ((rd_T79 l0_1 x11_1).f6) ((rd_T79 l0_1 x11_1).f7)) else (impl_Bridge_rootPort.j1 k1 x3_1 x11_1 l0_1 (l0_1.length : Int) x11_1 (decide (((rd_T79 l0_1 x11_1).f3) ≥ 8)) a0_0 l0_1 ((rd_T79 l0_1 x11_1).f0) true ((rd_T79 l0_1 x11_1).f2.f0) ((rd_T79 l0_1 x11_1).f2.f1) ((rd_T79 l0_1 x11_1).f2.f2) ((rd_T79 l0_1 x11_1).f2.f3) ((rd_T79 l0_1 x11_1).f3) ((rd_T79 l0_1 x11_1).f4) ((rd_T79 l0_1 x11_1).f5) ((rd_T79 l0_1 x11_1).f6) ((rd_T79 l0_1 x11_1).f7))))) = some r := by rw [if_pos rfl] at H; exact H
    clear H
    have H := H1
    clear H1
    by_cases c13 : ((rd_T79 l0_1 x11_1).f2.f2) = a0_0
    case pos =>
     rw [if_pos c13] at H
     have c13b0 : (((rd_T79 l0_1 x11_1).f2.f2) == a0_0) = true := beq_iff_eq.mpr c13
     have c13b1 : (((rd_T79 l0_1 x11_1).f2.f2) != a0_0) = false := bne_eq_false_iff_eq.mpr c13
     clear c13
     have H' := aM H
     clear H
     try go_wp2
     refine nW (fun W => Aside0 (W.heap[gb]? = some (.cells #[.int .i64 a0_0, .slice (some ad330) l0_1.length c0_1] 28 (0, 0))) ∧ Aside0 (W.heap[gb331]? = some (.cells #[.bool ((rd_T79 l0_1 x11_1).f0), .bool true, .int .i64 ((rd_T79 l0_1 x11_1).f2.f0), .int .i64 ((rd_T79 l0_1 x11_1).f2.f1), .int .i64 ((rd_T79 l0_1 x11_1).f2.f2), .int .i64 ((rd_T79 l0_1 x11_1).f2.f3), .int .i64 ((rd_T79 l0_1 x11_1).f3), .int .i64 ((rd_T79 l0_1 x11_1).f4), .int .i64 ((rd_T79 l0_1 x11_1).f5), .int .i64 ((rd_T79 l0_1 x11_1).f6), .bool ((rd_T79 l0_1 x11_1).f7)] 79 (0, 0))) ∧ Aside0 (Below w.heap.size w W)) ⟨⟨fm BK329.out⟩, ⟨pA11 (fm BK331.out)⟩, ⟨bl HB.out⟩⟩ ?_
     intro w14 nn_
     replace BK329 := nn_.1
     replace BK331 := nn_.2.1
     replace HB := nn_.2.2
     clear nn_
     replace BK329 := aM (blk_drew BK329.out)
     replace BK331 := aM (blk_drew BK331.out)
     replace HB := aM (below_drew1 HB.out)
     refine start_ (n := 34) (S := fun w' => cT11 w' gb331 (.bool ((rd_T79 l0_1 x11_1).f0)) (.bool true) (.int .i64 ((rd_T79 l0_1 x11_1).f2.f0)) (.int .i64 ((rd_T79 l0_1 x11_1).f2.f1)) (.int .i64 ((rd_T79 l0_1 x11_1).f2.f2)) (.int .i64 ((rd_T79 l0_1 x11_1).f2.f3)) (.int .i64 ((rd_T79 l0_1 x11_1).f3)) (.int .i64 ((rd_T79 l0_1 x11_1).f4)) (.int .i64 ((rd_T79 l0_1 x11_1).f5)) (.int .i64 ((rd_T79 l0_1 x11_1).f6)) (.bool ((rd_T79 l0_1 x11_1).f7)) (cS2 w' gb (.int .i64 a0_0) (.slice (some ad330) l0_1.length c0_1))) (ds := []) (dn 34 0) (by kernel_rfl) rfl rfl ⟨cI BK331.out 0, cI BK331.out 1, cI BK331.out 2, cI BK331.out 3, cI BK331.out 4, cI BK331.out 5, cI BK331.out 6, cI BK331.out 7, cI BK331.out 8, cI BK331.out 9, cI BK331.out 10, cI BK329.out 0, cI BK329.out 1⟩ (fun hHeld => ?_); refine with_tabW impl_Bridge_rootPort.tab5 impl_Bridge_rootPort.bits5 (fun HT_ HW_ => ?_)
     generalize w14.drew = w15 at BK329 BK331 HB hHeld ⊢
     refine nY (N := some 16) HT_ ?_
     refine tY (N := some 17) HT_ HW_ hHeld ?_
     refine nY (N := some 18) HT_ ?_
     refine nY (N := some 19) HT_ ?_
     refine nY (N := some 20) HT_ ?_
     refine nY (N := some 21) HT_ ?_
     refine pY (i := 7) (N := some 23) #[Y,Y,Y,Y,Y,Y,U,Y,U,U,U,U,U,U,U,U,U,U,U,U,U,U,U,U,U,U,U,U,U,U,U,U,U,U] HT_ ?_
     refine pY (i := 8) (N := some 24) #[Y,Y,Y,Y,Y,Y,U,Y,Y,U,U,U,U,U,U,U,U,U,U,U,U,U,U,U,U,U,U,U,U,U,U,U,U,U] HT_ ?_
     refine pY (i := 9) (N := some 25) #[Y,Y,Y,Y,Y,Y,U,Y,Y,Y,U,U,U,U,U,U,U,U,U,U,U,U,U,U,U,U,U,U,U,U,U,U,U,U] HT_ ?_
     refine aY (i := 6) (N := some 22) #[Y,Y,Y,Y,Y,Y,Y,Y,Y,Y,U,U,U,U,U,U,U,U,U,U,U,U,U,U,U,U,U,U,U,U,U,U,U,U] HT_ HW_ hHeld ?_
     refine aY (i := 10) (N := some 26) #[Y,Y,Y,Y,Y,Y,Y,Y,Y,Y,Y,U,U,U,U,U,U,U,U,U,U,U,U,U,U,U,U,U,U,U,U,U,U,U] HT_ HW_ hHeld ?_
     refine pY (i := 11) (N := some 27) #[Y,Y,Y,Y,Y,Y,Y,Y,Y,Y,Y,Y,U,U,U,U,U,U,U,U,U,U,U,U,U,U,U,U,U,U,U,U,U,U] HT_ ?_
     refine pY (i := 12) (N := some 28) #[Y,Y,Y,Y,Y,Y,Y,Y,Y,Y,Y,Y,Y,U,U,U,U,U,U,U,U,U,U,U,U,U,U,U,U,U,U,U,U,U] HT_ ?_
     refine pY (i := 13) (N := some 29) #[Y,Y,Y,Y,Y,Y,Y,Y,Y,Y,Y,Y,Y,Y,U,U,U,U,U,U,U,U,U,U,U,U,U,U,U,U,U,U,U,U] HT_ ?_
     refine pU (i := 14) (N := some 30) #[Y,Y,Y,Y,Y,Y,Y,Y,Y,Y,Y,Y,Y,Y,Y,U,U,U,U,U,U,U,U,U,U,U,U,U,U,U,U,U,U,U] HT_ ?_
     refine pU (i := 15) (N := some 31) #[Y,Y,Y,Y,Y,Y,Y,Y,Y,Y,Y,Y,Y,Y,Y,Y,U,U,U,U,U,U,U,U,U,U,U,U,U,U,U,U,U,U] HT_ ?_
     refine pU (i := 16) (N := some 32) #[Y,Y,Y,Y,Y,Y,Y,Y,Y,Y,Y,Y,Y,Y,Y,Y,Y,U,U,U,U,U,U,U,U,U,U,U,U,U,U,U,U,U] HT_ ?_
     refine pU (i := 17) (N := some 33) #[Y,Y,Y,Y,Y,Y,Y,Y,Y,Y,Y,Y,Y,Y,Y,Y,Y,Y,U,U,U,U,U,U,U,U,U,U,U,U,U,U,U,U] HT_ ?_
     refine pU (i := 18) (N := some 34) #[Y,Y,Y,Y,Y,Y,Y,Y,Y,Y,Y,Y,Y,Y,Y,Y,Y,Y,Y,U,U,U,U,U,U,U,U,U,U,U,U,U,U,U] HT_ ?_
     refine pU (i := 19) (N := some 35) #[Y,Y,Y,Y,Y,Y,Y,Y,Y,Y,Y,Y,Y,Y,Y,Y,Y,Y,Y,Y,U,U,U,U,U,U,U,U,U,U,U,U,U,U] HT_ ?_
     refine pU (i := 20) (N := some 36) #[Y,Y,Y,Y,Y,Y,Y,Y,Y,Y,Y,Y,Y,Y,Y,Y,Y,Y,Y,Y,Y,U,U,U,U,U,U,U,U,U,U,U,U,U] HT_ ?_
     refine pU (i := 21) (N := some 37) #[Y,Y,Y,Y,Y,Y,Y,Y,Y,Y,Y,Y,Y,Y,Y,Y,Y,Y,Y,Y,Y,Y,U,U,U,U,U,U,U,U,U,U,U,U] HT_ ?_
     refine pY (i := 22) (N := some 38) #[Y,Y,Y,Y,Y,Y,Y,Y,Y,Y,Y,Y,Y,Y,Y,Y,Y,Y,Y,Y,Y,Y,Y,U,U,U,U,U,U,U,U,U,U,U] HT_ ?_
     refine pY (i := 23) (N := some 39) #[Y,Y,Y,Y,Y,Y,Y,Y,Y,Y,Y,Y,Y,Y,Y,Y,Y,Y,Y,Y,Y,Y,Y,Y,U,U,U,U,U,U,U,U,U,U] HT_ ?_
     refine pU (i := 24) (N := some 40) #[Y,Y,Y,Y,Y,Y,Y,Y,Y,Y,Y,Y,Y,Y,Y,Y,Y,Y,Y,Y,Y,Y,Y,Y,Y,U,U,U,U,U,U,U,U,U] HT_ ?_
     refine pU (i := 25) (N := some 41) #[Y,Y,Y,Y,Y,Y,Y,Y,Y,Y,Y,Y,Y,Y,Y,Y,Y,Y,Y,Y,Y,Y,Y,Y,Y,Y,U,U,U,U,U,U,U,U] HT_ ?_
     refine pU (i := 26) (N := some 42) #[Y,Y,Y,Y,Y,Y,Y,Y,Y,Y,Y,Y,Y,Y,Y,Y,Y,Y,Y,Y,Y,Y,Y,Y,Y,Y,Y,U,U,U,U,U,U,U] HT_ ?_
     refine pU (i := 27) (N := some 43) #[Y,Y,Y,Y,Y,Y,Y,Y,Y,Y,Y,Y,Y,Y,Y,Y,Y,Y,Y,Y,Y,Y,Y,Y,Y,Y,Y,Y,U,U,U,U,U,U] HT_ ?_
     refine pY (i := 28) (N := some 44) #[Y,Y,Y,Y,Y,Y,Y,Y,Y,Y,Y,Y,Y,Y,Y,Y,Y,Y,Y,Y,Y,Y,Y,Y,Y,Y,Y,Y,Y,U,U,U,U,U] HT_ ?_
     refine pY (i := 29) (N := some 45) #[Y,Y,Y,Y,Y,Y,Y,Y,Y,Y,Y,Y,Y,Y,Y,Y,Y,Y,Y,Y,Y,Y,Y,Y,Y,Y,Y,Y,Y,Y,U,U,U,U] HT_ ?_
     refine pU (i := 30) (N := some 46) #[Y,Y,Y,Y,Y,Y,Y,Y,Y,Y,Y,Y,Y,Y,Y,Y,Y,Y,Y,Y,Y,Y,Y,Y,Y,Y,Y,Y,Y,Y,Y,U,U,U] HT_ ?_
     refine pU (i := 31) (N := some 47) #[Y,Y,Y,Y,Y,Y,Y,Y,Y,Y,Y,Y,Y,Y,Y,Y,Y,Y,Y,Y,Y,Y,Y,Y,Y,Y,Y,Y,Y,Y,Y,Y,U,U] HT_ ?_
     refine pU (i := 32) (N := some 48) #[Y,Y,Y,Y,Y,Y,Y,Y,Y,Y,Y,Y,Y,Y,Y,Y,Y,Y,Y,Y,Y,Y,Y,Y,Y,Y,Y,Y,Y,Y,Y,Y,Y,U] HT_ ?_
     refine pY (i := 33) (N := some 49) #[Y,Y,Y,Y,Y,Y,Y,Y,Y,Y,Y,Y,Y,Y,Y,Y,Y,Y,Y,Y,Y,Y,Y,Y,Y,Y,Y,Y,Y,Y,Y,Y,Y,Y] HT_ ?_
     refine done_ (done_of HT_.out (by kernel_rfl)) ?_
     try go_wp2
     go_meet
     case rel => (try rw [← Nbq11.out]); exact ⟨_, (true), xE, H', ⟨by have := HK1.out; first | omega | exact Nat.le_refl _⟩, ⟨by (with_reducible repeat (first | refine blk_drewN ?_ _ | refine blk_drew ?_ | refine blk_alloc ?_ _)); exact BK329.out⟩, ⟨by (with_reducible repeat (first | refine blk_drewN ?_ _ | refine blk_drew ?_ | refine blk_alloc ?_ _)); exact BK331.out⟩, ⟨bl HB.out⟩⟩
    rw [if_neg c13] at H
    have c13b0 : (((rd_T79 l0_1 x11_1).f2.f2) == a0_0) = false := beq_eq_false_iff_ne.mpr c13
    have c13b1 : (((rd_T79 l0_1 x11_1).f2.f2) != a0_0) = true := bne_iff_ne.mpr c13
    by_cases c16 : ((rd_T79 l0_1 x11_1).f2.f0) ≥ a0_0
    case pos =>
     rw [if_pos c16] at H
     have c16b0 : decide (a0_0 ≤ ((rd_T79 l0_1 x11_1).f2.f0)) = true := decide_eq_true c16
     clear c16
     have H' := aM H
     clear H
     try go_wp2
     refine nW (fun W => Aside0 (W.heap[gb]? = some (.cells #[.int .i64 a0_0, .slice (some ad330) l0_1.length c0_1] 28 (0, 0))) ∧ Aside0 (W.heap[gb331]? = some (.cells #[.bool ((rd_T79 l0_1 x11_1).f0), .bool true, .int .i64 ((rd_T79 l0_1 x11_1).f2.f0), .int .i64 ((rd_T79 l0_1 x11_1).f2.f1), .int .i64 ((rd_T79 l0_1 x11_1).f2.f2), .int .i64 ((rd_T79 l0_1 x11_1).f2.f3), .int .i64 ((rd_T79 l0_1 x11_1).f3), .int .i64 ((rd_T79 l0_1 x11_1).f4), .int .i64 ((rd_T79 l0_1 x11_1).f5), .int .i64 ((rd_T79 l0_1 x11_1).f6), .bool ((rd_T79 l0_1 x11_1).f7)] 79 (0, 0))) ∧ Aside0 (Below w.heap.size w W)) ⟨⟨fm BK329.out⟩, ⟨pA11 (fm BK331.out)⟩, ⟨bl HB.out⟩⟩ ?_
     intro w17 nn_
     replace BK329 := nn_.1
     replace BK331 := nn_.2.1
     replace HB := nn_.2.2
     clear nn_
     replace BK329 := aM (blk_drew BK329.out)
     replace BK331 := aM (blk_drew BK331.out)
     replace HB := aM (below_drew1 HB.out)
     refine start_ (n := 34) (S := fun w' => cT11 w' gb331 (.bool ((rd_T79 l0_1 x11_1).f0)) (.bool true) (.int .i64 ((rd_T79 l0_1 x11_1).f2.f0)) (.int .i64 ((rd_T79 l0_1 x11_1).f2.f1)) (.int .i64 ((rd_T79 l0_1 x11_1).f2.f2)) (.int .i64 ((rd_T79 l0_1 x11_1).f2.f3)) (.int .i64 ((rd_T79 l0_1 x11_1).f3)) (.int .i64 ((rd_T79 l0_1 x11_1).f4)) (.int .i64 ((rd_T79 l0_1 x11_1).f5)) (.int .i64 ((rd_T79 l0_1 x11_1).f6)) (.bool ((rd_T79 l0_1 x11_1).f7)) (cS2 w' gb (.int .i64 a0_0) (.slice (some ad330) l0_1.length c0_1))) (ds := []) (dn 34 0) (by kernel_rfl) rfl rfl ⟨cI BK331.out 0, cI BK331.out 1, cI BK331.out 2, cI BK331.out 3, cI BK331.out 4, cI BK331.out 5, cI BK331.out 6, cI BK331.out 7, cI BK331.out 8, cI BK331.out 9, cI BK331.out 10, cI BK329.out 0, cI BK329.out 1⟩ (fun hHeld => ?_); refine with_tabW impl_Bridge_rootPort.tab5 impl_Bridge_rootPort.bits5 (fun HT_ HW_ => ?_)
     generalize w17.drew = w18 at BK329 BK331 HB hHeld ⊢
     refine nY (N := some 16) HT_ ?_
     refine tY (N := some 17) HT_ HW_ hHeld ?_
     refine nY (N := some 18) HT_ ?_
     refine nY (N := some 19) HT_ ?_
     refine nY (N := some 20) HT_ ?_
     refine nY (N := some 21) HT_ ?_
     refine pY (i := 7) (N := some 23) #[Y,Y,Y,Y,Y,Y,U,Y,U,U,U,U,U,U,U,U,U,U,U,U,U,U,U,U,U,U,U,U,U,U,U,U,U,U] HT_ ?_
     refine pY (i := 8) (N := some 24) #[Y,Y,Y,Y,Y,Y,U,Y,Y,U,U,U,U,U,U,U,U,U,U,U,U,U,U,U,U,U,U,U,U,U,U,U,U,U] HT_ ?_
     refine pY (i := 9) (N := some 25) #[Y,Y,Y,Y,Y,Y,U,Y,Y,Y,U,U,U,U,U,U,U,U,U,U,U,U,U,U,U,U,U,U,U,U,U,U,U,U] HT_ ?_
     refine aY (i := 6) (N := some 22) #[Y,Y,Y,Y,Y,Y,Y,Y,Y,Y,U,U,U,U,U,U,U,U,U,U,U,U,U,U,U,U,U,U,U,U,U,U,U,U] HT_ HW_ hHeld ?_
     refine aY (i := 10) (N := some 26) #[Y,Y,Y,Y,Y,Y,Y,Y,Y,Y,Y,U,U,U,U,U,U,U,U,U,U,U,U,U,U,U,U,U,U,U,U,U,U,U] HT_ HW_ hHeld ?_
     refine pY (i := 11) (N := some 27) #[Y,Y,Y,Y,Y,Y,Y,Y,Y,Y,Y,Y,U,U,U,U,U,U,U,U,U,U,U,U,U,U,U,U,U,U,U,U,U,U] HT_ ?_
     refine pY (i := 12) (N := some 28) #[Y,Y,Y,Y,Y,Y,Y,Y,Y,Y,Y,Y,Y,U,U,U,U,U,U,U,U,U,U,U,U,U,U,U,U,U,U,U,U,U] HT_ ?_
     refine pY (i := 13) (N := some 29) #[Y,Y,Y,Y,Y,Y,Y,Y,Y,Y,Y,Y,Y,Y,U,U,U,U,U,U,U,U,U,U,U,U,U,U,U,U,U,U,U,U] HT_ ?_
     refine pY (i := 14) (N := some 30) #[Y,Y,Y,Y,Y,Y,Y,Y,Y,Y,Y,Y,Y,Y,Y,U,U,U,U,U,U,U,U,U,U,U,U,U,U,U,U,U,U,U] HT_ ?_
     refine pY (i := 15) (N := some 31) #[Y,Y,Y,Y,Y,Y,Y,Y,Y,Y,Y,Y,Y,Y,Y,Y,U,U,U,U,U,U,U,U,U,U,U,U,U,U,U,U,U,U] HT_ ?_
     refine pY (i := 17) (N := some 33) #[Y,Y,Y,Y,Y,Y,Y,Y,Y,Y,Y,Y,Y,Y,Y,Y,U,Y,U,U,U,U,U,U,U,U,U,U,U,U,U,U,U,U] HT_ ?_
     refine pY (i := 18) (N := some 34) #[Y,Y,Y,Y,Y,Y,Y,Y,Y,Y,Y,Y,Y,Y,Y,Y,U,Y,Y,U,U,U,U,U,U,U,U,U,U,U,U,U,U,U] HT_ ?_
     refine pY (i := 19) (N := some 35) #[Y,Y,Y,Y,Y,Y,Y,Y,Y,Y,Y,Y,Y,Y,Y,Y,U,Y,Y,Y,U,U,U,U,U,U,U,U,U,U,U,U,U,U] HT_ ?_
     refine aY (i := 16) (N := some 32) #[Y,Y,Y,Y,Y,Y,Y,Y,Y,Y,Y,Y,Y,Y,Y,Y,Y,Y,Y,Y,U,U,U,U,U,U,U,U,U,U,U,U,U,U] HT_ HW_ hHeld ?_
     refine aY (i := 20) (N := some 36) #[Y,Y,Y,Y,Y,Y,Y,Y,Y,Y,Y,Y,Y,Y,Y,Y,Y,Y,Y,Y,Y,U,U,U,U,U,U,U,U,U,U,U,U,U] HT_ HW_ hHeld ?_
     refine pY (i := 21) (N := some 37) #[Y,Y,Y,Y,Y,Y,Y,Y,Y,Y,Y,Y,Y,Y,Y,Y,Y,Y,Y,Y,Y,Y,U,U,U,U,U,U,U,U,U,U,U,U] HT_ ?_
     refine pY (i := 22) (N := some 38) #[Y,Y,Y,Y,Y,Y,Y,Y,Y,Y,Y,Y,Y,Y,Y,Y,Y,Y,Y,Y,Y,Y,Y,U,U,U,U,U,U,U,U,U,U,U] HT_ ?_
     refine pY (i := 23) (N := some 39) #[Y,Y,Y,Y,Y,Y,Y,Y,Y,Y,Y,Y,Y,Y,Y,Y,Y,Y,Y,Y,Y,Y,Y,Y,U,U,U,U,U,U,U,U,U,U] HT_ ?_
     refine pU (i := 24) (N := some 40) #[Y,Y,Y,Y,Y,Y,Y,Y,Y,Y,Y,Y,Y,Y,Y,Y,Y,Y,Y,Y,Y,Y,Y,Y,Y,U,U,U,U,U,U,U,U,U] HT_ ?_
     refine pU (i := 25) (N := some 41) #[Y,Y,Y,Y,Y,Y,Y,Y,Y,Y,Y,Y,Y,Y,Y,Y,Y,Y,Y,Y,Y,Y,Y,Y,Y,Y,U,U,U,U,U,U,U,U] HT_ ?_
     refine pU (i := 26) (N := some 42) #[Y,Y,Y,Y,Y,Y,Y,Y,Y,Y,Y,Y,Y,Y,Y,Y,Y,Y,Y,Y,Y,Y,Y,Y,Y,Y,Y,U,U,U,U,U,U,U] HT_ ?_
     refine pU (i := 27) (N := some 43) #[Y,Y,Y,Y,Y,Y,Y,Y,Y,Y,Y,Y,Y,Y,Y,Y,Y,Y,Y,Y,Y,Y,Y,Y,Y,Y,Y,Y,U,U,U,U,U,U] HT_ ?_
     refine pY (i := 28) (N := some 44) #[Y,Y,Y,Y,Y,Y,Y,Y,Y,Y,Y,Y,Y,Y,Y,Y,Y,Y,Y,Y,Y,Y,Y,Y,Y,Y,Y,Y,Y,U,U,U,U,U] HT_ ?_
     refine pY (i := 29) (N := some 45) #[Y,Y,Y,Y,Y,Y,Y,Y,Y,Y,Y,Y,Y,Y,Y,Y,Y,Y,Y,Y,Y,Y,Y,Y,Y,Y,Y,Y,Y,Y,U,U,U,U] HT_ ?_
     refine pU (i := 30) (N := some 46) #[Y,Y,Y,Y,Y,Y,Y,Y,Y,Y,Y,Y,Y,Y,Y,Y,Y,Y,Y,Y,Y,Y,Y,Y,Y,Y,Y,Y,Y,Y,Y,U,U,U] HT_ ?_
     refine pU (i := 31) (N := some 47) #[Y,Y,Y,Y,Y,Y,Y,Y,Y,Y,Y,Y,Y,Y,Y,Y,Y,Y,Y,Y,Y,Y,Y,Y,Y,Y,Y,Y,Y,Y,Y,Y,U,U] HT_ ?_
     refine pU (i := 32) (N := some 48) #[Y,Y,Y,Y,Y,Y,Y,Y,Y,Y,Y,Y,Y,Y,Y,Y,Y,Y,Y,Y,Y,Y,Y,Y,Y,Y,Y,Y,Y,Y,Y,Y,Y,U] HT_ ?_
     refine pY (i := 33) (N := some 49) #[Y,Y,Y,Y,Y,Y,Y,Y,Y,Y,Y,Y,Y,Y,Y,Y,Y,Y,Y,Y,Y,Y,Y,Y,Y,Y,Y,Y,Y,Y,Y,Y,Y,Y] HT_ ?_
     refine done_ (done_of HT_.out (by kernel_rfl)) ?_
     try go_wp2
     go_meet
     case rel => (try rw [← Nbq11.out]); exact ⟨_, (true), xE, H', ⟨by have := HK1.out; first | omega | exact Nat.le_refl _⟩, ⟨by (with_reducible repeat (first | refine blk_drewN ?_ _ | refine blk_drew ?_ | refine blk_alloc ?_ _)); exact BK329.out⟩, ⟨by (with_reducible repeat (first | refine blk_drewN ?_ _ | refine blk_drew ?_ | refine blk_alloc ?_ _)); exact BK331.out⟩, ⟨bl HB.out⟩⟩
    rw [if_neg c16] at H
    have c16b0 : decide (a0_0 ≤ ((rd_T79 l0_1 x11_1).f2.f0)) = false := decide_eq_false c16
    clear c16
    by_cases c19 : ((rd_T79 l0_1 x11_1).f2.f1) ≥ 20
    case pos =>
     rw [if_pos c19] at H
     have c19b0 : decide (20 ≤ ((rd_T79 l0_1 x11_1).f2.f1)) = true := decide_eq_true c19
     clear c19
     have H' := aM H
     clear H
     try go_wp2
     refine nW (fun W => Aside0 (W.heap[gb]? = some (.cells #[.int .i64 a0_0, .slice (some ad330) l0_1.length c0_1] 28 (0, 0))) ∧ Aside0 (W.heap[gb331]? = some (.cells #[.bool ((rd_T79 l0_1 x11_1).f0), .bool true, .int .i64 ((rd_T79 l0_1 x11_1).f2.f0), .int .i64 ((rd_T79 l0_1 x11_1).f2.f1), .int .i64 ((rd_T79 l0_1 x11_1).f2.f2), .int .i64 ((rd_T79 l0_1 x11_1).f2.f3), .int .i64 ((rd_T79 l0_1 x11_1).f3), .int .i64 ((rd_T79 l0_1 x11_1).f4), .int .i64 ((rd_T79 l0_1 x11_1).f5), .int .i64 ((rd_T79 l0_1 x11_1).f6), .bool ((rd_T79 l0_1 x11_1).f7)] 79 (0, 0))) ∧ Aside0 (Below w.heap.size w W)) ⟨⟨fm BK329.out⟩, ⟨pA11 (fm BK331.out)⟩, ⟨bl HB.out⟩⟩ ?_
     intro w20 nn_
     replace BK329 := nn_.1
     replace BK331 := nn_.2.1
     replace HB := nn_.2.2
     clear nn_
     replace BK329 := aM (blk_drew BK329.out)
     replace BK331 := aM (blk_drew BK331.out)
     replace HB := aM (below_drew1 HB.out)
     refine start_ (n := 34) (S := fun w' => cT11 w' gb331 (.bool ((rd_T79 l0_1 x11_1).f0)) (.bool true) (.int .i64 ((rd_T79 l0_1 x11_1).f2.f0)) (.int .i64 ((rd_T79 l0_1 x11_1).f2.f1)) (.int .i64 ((rd_T79 l0_1 x11_1).f2.f2)) (.int .i64 ((rd_T79 l0_1 x11_1).f2.f3)) (.int .i64 ((rd_T79 l0_1 x11_1).f3)) (.int .i64 ((rd_T79 l0_1 x11_1).f4)) (.int .i64 ((rd_T79 l0_1 x11_1).f5)) (.int .i64 ((rd_T79 l0_1 x11_1).f6)) (.bool ((rd_T79 l0_1 x11_1).f7)) (cS2 w' gb (.int .i64 a0_0) (.slice (some ad330) l0_1.length c0_1))) (ds := []) (dn 34 0) (by kernel_rfl) rfl rfl ⟨cI BK331.out 0, cI BK331.out 1, cI BK331.out 2, cI BK331.out 3, cI BK331.out 4, cI BK331.out 5, cI BK331.out 6, cI BK331.out 7, cI BK331.out 8, cI BK331.out 9, cI BK331.out 10, cI BK329.out 0, cI BK329.out 1⟩ (fun hHeld => ?_); refine with_tabW impl_Bridge_rootPort.tab5 impl_Bridge_rootPort.bits5 (fun HT_ HW_ => ?_)
     generalize w20.drew = w21 at BK329 BK331 HB hHeld ⊢
     refine nY (N := some 16) HT_ ?_
     refine tY (N := some 17) HT_ HW_ hHeld ?_
     refine nY (N := some 18) HT_ ?_
     refine nY (N := some 19) HT_ ?_
     refine nY (N := some 20) HT_ ?_
     refine nY (N := some 21) HT_ ?_
     refine pY (i := 7) (N := some 23) #[Y,Y,Y,Y,Y,Y,U,Y,U,U,U,U,U,U,U,U,U,U,U,U,U,U,U,U,U,U,U,U,U,U,U,U,U,U] HT_ ?_
     refine pY (i := 8) (N := some 24) #[Y,Y,Y,Y,Y,Y,U,Y,Y,U,U,U,U,U,U,U,U,U,U,U,U,U,U,U,U,U,U,U,U,U,U,U,U,U] HT_ ?_
     refine pY (i := 9) (N := some 25) #[Y,Y,Y,Y,Y,Y,U,Y,Y,Y,U,U,U,U,U,U,U,U,U,U,U,U,U,U,U,U,U,U,U,U,U,U,U,U] HT_ ?_
     refine aY (i := 6) (N := some 22) #[Y,Y,Y,Y,Y,Y,Y,Y,Y,Y,U,U,U,U,U,U,U,U,U,U,U,U,U,U,U,U,U,U,U,U,U,U,U,U] HT_ HW_ hHeld ?_
     refine aY (i := 10) (N := some 26) #[Y,Y,Y,Y,Y,Y,Y,Y,Y,Y,Y,U,U,U,U,U,U,U,U,U,U,U,U,U,U,U,U,U,U,U,U,U,U,U] HT_ HW_ hHeld ?_
     refine pY (i := 11) (N := some 27) #[Y,Y,Y,Y,Y,Y,Y,Y,Y,Y,Y,Y,U,U,U,U,U,U,U,U,U,U,U,U,U,U,U,U,U,U,U,U,U,U] HT_ ?_
     refine pY (i := 12) (N := some 28) #[Y,Y,Y,Y,Y,Y,Y,Y,Y,Y,Y,Y,Y,U,U,U,U,U,U,U,U,U,U,U,U,U,U,U,U,U,U,U,U,U] HT_ ?_
     refine pY (i := 13) (N := some 29) #[Y,Y,Y,Y,Y,Y,Y,Y,Y,Y,Y,Y,Y,Y,U,U,U,U,U,U,U,U,U,U,U,U,U,U,U,U,U,U,U,U] HT_ ?_
     refine pY (i := 14) (N := some 30) #[Y,Y,Y,Y,Y,Y,Y,Y,Y,Y,Y,Y,Y,Y,Y,U,U,U,U,U,U,U,U,U,U,U,U,U,U,U,U,U,U,U] HT_ ?_
     refine pY (i := 15) (N := some 31) #[Y,Y,Y,Y,Y,Y,Y,Y,Y,Y,Y,Y,Y,Y,Y,Y,U,U,U,U,U,U,U,U,U,U,U,U,U,U,U,U,U,U] HT_ ?_
     refine pY (i := 17) (N := some 33) #[Y,Y,Y,Y,Y,Y,Y,Y,Y,Y,Y,Y,Y,Y,Y,Y,U,Y,U,U,U,U,U,U,U,U,U,U,U,U,U,U,U,U] HT_ ?_
     refine pY (i := 18) (N := some 34) #[Y,Y,Y,Y,Y,Y,Y,Y,Y,Y,Y,Y,Y,Y,Y,Y,U,Y,Y,U,U,U,U,U,U,U,U,U,U,U,U,U,U,U] HT_ ?_
     refine pY (i := 19) (N := some 35) #[Y,Y,Y,Y,Y,Y,Y,Y,Y,Y,Y,Y,Y,Y,Y,Y,U,Y,Y,Y,U,U,U,U,U,U,U,U,U,U,U,U,U,U] HT_ ?_
     refine aY (i := 16) (N := some 32) #[Y,Y,Y,Y,Y,Y,Y,Y,Y,Y,Y,Y,Y,Y,Y,Y,Y,Y,Y,Y,U,U,U,U,U,U,U,U,U,U,U,U,U,U] HT_ HW_ hHeld ?_
     refine aY (i := 20) (N := some 36) #[Y,Y,Y,Y,Y,Y,Y,Y,Y,Y,Y,Y,Y,Y,Y,Y,Y,Y,Y,Y,Y,U,U,U,U,U,U,U,U,U,U,U,U,U] HT_ HW_ hHeld ?_
     refine pY (i := 21) (N := some 37) #[Y,Y,Y,Y,Y,Y,Y,Y,Y,Y,Y,Y,Y,Y,Y,Y,Y,Y,Y,Y,Y,Y,U,U,U,U,U,U,U,U,U,U,U,U] HT_ ?_
     refine pY (i := 22) (N := some 38) #[Y,Y,Y,Y,Y,Y,Y,Y,Y,Y,Y,Y,Y,Y,Y,Y,Y,Y,Y,Y,Y,Y,Y,U,U,U,U,U,U,U,U,U,U,U] HT_ ?_
     refine pY (i := 23) (N := some 39) #[Y,Y,Y,Y,Y,Y,Y,Y,Y,Y,Y,Y,Y,Y,Y,Y,Y,Y,Y,Y,Y,Y,Y,Y,U,U,U,U,U,U,U,U,U,U] HT_ ?_
     refine pY (i := 24) (N := some 40) #[Y,Y,Y,Y,Y,Y,Y,Y,Y,Y,Y,Y,Y,Y,Y,Y,Y,Y,Y,Y,Y,Y,Y,Y,Y,U,U,U,U,U,U,U,U,U] HT_ ?_
     refine pY (i := 25) (N := some 41) #[Y,Y,Y,Y,Y,Y,Y,Y,Y,Y,Y,Y,Y,Y,Y,Y,Y,Y,Y,Y,Y,Y,Y,Y,Y,Y,U,U,U,U,U,U,U,U] HT_ ?_
     refine aY (i := 26) (N := some 42) #[Y,Y,Y,Y,Y,Y,Y,Y,Y,Y,Y,Y,Y,Y,Y,Y,Y,Y,Y,Y,Y,Y,Y,Y,Y,Y,Y,U,U,U,U,U,U,U] HT_ HW_ hHeld ?_
     refine pY (i := 27) (N := some 43) #[Y,Y,Y,Y,Y,Y,Y,Y,Y,Y,Y,Y,Y,Y,Y,Y,Y,Y,Y,Y,Y,Y,Y,Y,Y,Y,Y,Y,U,U,U,U,U,U] HT_ ?_
     refine pY (i := 28) (N := some 44) #[Y,Y,Y,Y,Y,Y,Y,Y,Y,Y,Y,Y,Y,Y,Y,Y,Y,Y,Y,Y,Y,Y,Y,Y,Y,Y,Y,Y,Y,U,U,U,U,U] HT_ ?_
     refine pY (i := 29) (N := some 45) #[Y,Y,Y,Y,Y,Y,Y,Y,Y,Y,Y,Y,Y,Y,Y,Y,Y,Y,Y,Y,Y,Y,Y,Y,Y,Y,Y,Y,Y,Y,U,U,U,U] HT_ ?_
     refine pU (i := 30) (N := some 46) #[Y,Y,Y,Y,Y,Y,Y,Y,Y,Y,Y,Y,Y,Y,Y,Y,Y,Y,Y,Y,Y,Y,Y,Y,Y,Y,Y,Y,Y,Y,Y,U,U,U] HT_ ?_
     refine pU (i := 31) (N := some 47) #[Y,Y,Y,Y,Y,Y,Y,Y,Y,Y,Y,Y,Y,Y,Y,Y,Y,Y,Y,Y,Y,Y,Y,Y,Y,Y,Y,Y,Y,Y,Y,Y,U,U] HT_ ?_
     refine pU (i := 32) (N := some 48) #[Y,Y,Y,Y,Y,Y,Y,Y,Y,Y,Y,Y,Y,Y,Y,Y,Y,Y,Y,Y,Y,Y,Y,Y,Y,Y,Y,Y,Y,Y,Y,Y,Y,U] HT_ ?_
     refine pY (i := 33) (N := some 49) #[Y,Y,Y,Y,Y,Y,Y,Y,Y,Y,Y,Y,Y,Y,Y,Y,Y,Y,Y,Y,Y,Y,Y,Y,Y,Y,Y,Y,Y,Y,Y,Y,Y,Y] HT_ ?_
     refine done_ (done_of HT_.out (by kernel_rfl)) ?_
     try go_wp2
     go_meet
     case rel => (try rw [← Nbq11.out]); exact ⟨_, (true), xE, H', ⟨by have := HK1.out; first | omega | exact Nat.le_refl _⟩, ⟨by (with_reducible repeat (first | refine blk_drewN ?_ _ | refine blk_drew ?_ | refine blk_alloc ?_ _)); exact BK329.out⟩, ⟨by (with_reducible repeat (first | refine blk_drewN ?_ _ | refine blk_drew ?_ | refine blk_alloc ?_ _)); exact BK331.out⟩, ⟨bl HB.out⟩⟩
    rw [if_neg c19] at H
    have c19b0 : decide (20 ≤ ((rd_T79 l0_1 x11_1).f2.f1)) = false := decide_eq_false c19
    clear c19
    have H' := aM H
    clear H
    try go_wp2
    refine nW (fun W => Aside0 (W.heap[gb]? = some (.cells #[.int .i64 a0_0, .slice (some ad330) l0_1.length c0_1] 28 (0, 0))) ∧ Aside0 (W.heap[gb331]? = some (.cells #[.bool ((rd_T79 l0_1 x11_1).f0), .bool true, .int .i64 ((rd_T79 l0_1 x11_1).f2.f0), .int .i64 ((rd_T79 l0_1 x11_1).f2.f1), .int .i64 ((rd_T79 l0_1 x11_1).f2.f2), .int .i64 ((rd_T79 l0_1 x11_1).f2.f3), .int .i64 ((rd_T79 l0_1 x11_1).f3), .int .i64 ((rd_T79 l0_1 x11_1).f4), .int .i64 ((rd_T79 l0_1 x11_1).f5), .int .i64 ((rd_T79 l0_1 x11_1).f6), .bool ((rd_T79 l0_1 x11_1).f7)] 79 (0, 0))) ∧ Aside0 (Below w.heap.size w W)) ⟨⟨fm BK329.out⟩, ⟨pA11 (fm BK331.out)⟩, ⟨bl HB.out⟩⟩ ?_
    intro w22 nn_
    replace BK329 := nn_.1
    replace BK331 := nn_.2.1
    replace HB := nn_.2.2
    clear nn_
    replace BK329 := aM (blk_drew BK329.out)
    replace BK331 := aM (blk_drew BK331.out)
    replace HB := aM (below_drew1 HB.out)
    refine start_ (n := 34) (S := fun w' => cT11 w' gb331 (.bool ((rd_T79 l0_1 x11_1).f0)) (.bool true) (.int .i64 ((rd_T79 l0_1 x11_1).f2.f0)) (.int .i64 ((rd_T79 l0_1 x11_1).f2.f1)) (.int .i64 ((rd_T79 l0_1 x11_1).f2.f2)) (.int .i64 ((rd_T79 l0_1 x11_1).f2.f3)) (.int .i64 ((rd_T79 l0_1 x11_1).f3)) (.int .i64 ((rd_T79 l0_1 x11_1).f4)) (.int .i64 ((rd_T79 l0_1 x11_1).f5)) (.int .i64 ((rd_T79 l0_1 x11_1).f6)) (.bool ((rd_T79 l0_1 x11_1).f7)) (cS2 w' gb (.int .i64 a0_0) (.slice (some ad330) l0_1.length c0_1))) (ds := []) (dn 34 0) (by kernel_rfl) rfl rfl ⟨cI BK331.out 0, cI BK331.out 1, cI BK331.out 2, cI BK331.out 3, cI BK331.out 4, cI BK331.out 5, cI BK331.out 6, cI BK331.out 7, cI BK331.out 8, cI BK331.out 9, cI BK331.out 10, cI BK329.out 0, cI BK329.out 1⟩ (fun hHeld => ?_); refine with_tabW impl_Bridge_rootPort.tab5 impl_Bridge_rootPort.bits5 (fun HT_ HW_ => ?_)
    generalize w22.drew = w23 at BK329 BK331 HB hHeld ⊢
    refine nY (N := some 16) HT_ ?_
    refine tY (N := some 17) HT_ HW_ hHeld ?_
    refine nY (N := some 18) HT_ ?_
    refine nY (N := some 19) HT_ ?_
    refine nY (N := some 20) HT_ ?_
    refine nY (N := some 21) HT_ ?_
    refine pY (i := 7) (N := some 23) #[Y,Y,Y,Y,Y,Y,U,Y,U,U,U,U,U,U,U,U,U,U,U,U,U,U,U,U,U,U,U,U,U,U,U,U,U,U] HT_ ?_
    refine pY (i := 8) (N := some 24) #[Y,Y,Y,Y,Y,Y,U,Y,Y,U,U,U,U,U,U,U,U,U,U,U,U,U,U,U,U,U,U,U,U,U,U,U,U,U] HT_ ?_
    refine pY (i := 9) (N := some 25) #[Y,Y,Y,Y,Y,Y,U,Y,Y,Y,U,U,U,U,U,U,U,U,U,U,U,U,U,U,U,U,U,U,U,U,U,U,U,U] HT_ ?_
    refine aY (i := 6) (N := some 22) #[Y,Y,Y,Y,Y,Y,Y,Y,Y,Y,U,U,U,U,U,U,U,U,U,U,U,U,U,U,U,U,U,U,U,U,U,U,U,U] HT_ HW_ hHeld ?_
    refine aY (i := 10) (N := some 26) #[Y,Y,Y,Y,Y,Y,Y,Y,Y,Y,Y,U,U,U,U,U,U,U,U,U,U,U,U,U,U,U,U,U,U,U,U,U,U,U] HT_ HW_ hHeld ?_
    refine pY (i := 11) (N := some 27) #[Y,Y,Y,Y,Y,Y,Y,Y,Y,Y,Y,Y,U,U,U,U,U,U,U,U,U,U,U,U,U,U,U,U,U,U,U,U,U,U] HT_ ?_
    refine pY (i := 12) (N := some 28) #[Y,Y,Y,Y,Y,Y,Y,Y,Y,Y,Y,Y,Y,U,U,U,U,U,U,U,U,U,U,U,U,U,U,U,U,U,U,U,U,U] HT_ ?_
    refine pY (i := 13) (N := some 29) #[Y,Y,Y,Y,Y,Y,Y,Y,Y,Y,Y,Y,Y,Y,U,U,U,U,U,U,U,U,U,U,U,U,U,U,U,U,U,U,U,U] HT_ ?_
    refine pY (i := 14) (N := some 30) #[Y,Y,Y,Y,Y,Y,Y,Y,Y,Y,Y,Y,Y,Y,Y,U,U,U,U,U,U,U,U,U,U,U,U,U,U,U,U,U,U,U] HT_ ?_
    refine pY (i := 15) (N := some 31) #[Y,Y,Y,Y,Y,Y,Y,Y,Y,Y,Y,Y,Y,Y,Y,Y,U,U,U,U,U,U,U,U,U,U,U,U,U,U,U,U,U,U] HT_ ?_
    refine pY (i := 17) (N := some 33) #[Y,Y,Y,Y,Y,Y,Y,Y,Y,Y,Y,Y,Y,Y,Y,Y,U,Y,U,U,U,U,U,U,U,U,U,U,U,U,U,U,U,U] HT_ ?_
    refine pY (i := 18) (N := some 34) #[Y,Y,Y,Y,Y,Y,Y,Y,Y,Y,Y,Y,Y,Y,Y,Y,U,Y,Y,U,U,U,U,U,U,U,U,U,U,U,U,U,U,U] HT_ ?_
    refine pY (i := 19) (N := some 35) #[Y,Y,Y,Y,Y,Y,Y,Y,Y,Y,Y,Y,Y,Y,Y,Y,U,Y,Y,Y,U,U,U,U,U,U,U,U,U,U,U,U,U,U] HT_ ?_
    refine aY (i := 16) (N := some 32) #[Y,Y,Y,Y,Y,Y,Y,Y,Y,Y,Y,Y,Y,Y,Y,Y,Y,Y,Y,Y,U,U,U,U,U,U,U,U,U,U,U,U,U,U] HT_ HW_ hHeld ?_
    refine aY (i := 20) (N := some 36) #[Y,Y,Y,Y,Y,Y,Y,Y,Y,Y,Y,Y,Y,Y,Y,Y,Y,Y,Y,Y,Y,U,U,U,U,U,U,U,U,U,U,U,U,U] HT_ HW_ hHeld ?_
    refine pY (i := 21) (N := some 37) #[Y,Y,Y,Y,Y,Y,Y,Y,Y,Y,Y,Y,Y,Y,Y,Y,Y,Y,Y,Y,Y,Y,U,U,U,U,U,U,U,U,U,U,U,U] HT_ ?_
    refine pY (i := 22) (N := some 38) #[Y,Y,Y,Y,Y,Y,Y,Y,Y,Y,Y,Y,Y,Y,Y,Y,Y,Y,Y,Y,Y,Y,Y,U,U,U,U,U,U,U,U,U,U,U] HT_ ?_
    refine pY (i := 23) (N := some 39) #[Y,Y,Y,Y,Y,Y,Y,Y,Y,Y,Y,Y,Y,Y,Y,Y,Y,Y,Y,Y,Y,Y,Y,Y,U,U,U,U,U,U,U,U,U,U] HT_ ?_
    refine pY (i := 24) (N := some 40) #[Y,Y,Y,Y,Y,Y,Y,Y,Y,Y,Y,Y,Y,Y,Y,Y,Y,Y,Y,Y,Y,Y,Y,Y,Y,U,U,U,U,U,U,U,U,U] HT_ ?_
    refine pY (i := 25) (N := some 41) #[Y,Y,Y,Y,Y,Y,Y,Y,Y,Y,Y,Y,Y,Y,Y,Y,Y,Y,Y,Y,Y,Y,Y,Y,Y,Y,U,U,U,U,U,U,U,U] HT_ ?_
    refine aY (i := 26) (N := some 42) #[Y,Y,Y,Y,Y,Y,Y,Y,Y,Y,Y,Y,Y,Y,Y,Y,Y,Y,Y,Y,Y,Y,Y,Y,Y,Y,Y,U,U,U,U,U,U,U] HT_ HW_ hHeld ?_
    refine pY (i := 27) (N := some 43) #[Y,Y,Y,Y,Y,Y,Y,Y,Y,Y,Y,Y,Y,Y,Y,Y,Y,Y,Y,Y,Y,Y,Y,Y,Y,Y,Y,Y,U,U,U,U,U,U] HT_ ?_
    refine pY (i := 28) (N := some 44) #[Y,Y,Y,Y,Y,Y,Y,Y,Y,Y,Y,Y,Y,Y,Y,Y,Y,Y,Y,Y,Y,Y,Y,Y,Y,Y,Y,Y,Y,U,U,U,U,U] HT_ ?_
    refine pY (i := 29) (N := some 45) #[Y,Y,Y,Y,Y,Y,Y,Y,Y,Y,Y,Y,Y,Y,Y,Y,Y,Y,Y,Y,Y,Y,Y,Y,Y,Y,Y,Y,Y,Y,U,U,U,U] HT_ ?_
    refine pY (i := 30) (N := some 46) #[Y,Y,Y,Y,Y,Y,Y,Y,Y,Y,Y,Y,Y,Y,Y,Y,Y,Y,Y,Y,Y,Y,Y,Y,Y,Y,Y,Y,Y,Y,Y,U,U,U] HT_ ?_
    refine aY (i := 31) (N := some 47) #[Y,Y,Y,Y,Y,Y,Y,Y,Y,Y,Y,Y,Y,Y,Y,Y,Y,Y,Y,Y,Y,Y,Y,Y,Y,Y,Y,Y,Y,Y,Y,Y,U,U] HT_ HW_ hHeld ?_
    refine pY (i := 32) (N := some 48) #[Y,Y,Y,Y,Y,Y,Y,Y,Y,Y,Y,Y,Y,Y,Y,Y,Y,Y,Y,Y,Y,Y,Y,Y,Y,Y,Y,Y,Y,Y,Y,Y,Y,U] HT_ ?_
    refine pY (i := 33) (N := some 49) #[Y,Y,Y,Y,Y,Y,Y,Y,Y,Y,Y,Y,Y,Y,Y,Y,Y,Y,Y,Y,Y,Y,Y,Y,Y,Y,Y,Y,Y,Y,Y,Y,Y,Y] HT_ ?_
    refine done_ (done_of HT_.out (by kernel_rfl)) ?_
    try go_wp2
    go_meet
    case rel => (try rw [← Nbq11.out]); exact ⟨_, (decide (((rd_T79 l0_1 x11_1).f3) ≥ 8)), xE, H', ⟨by have := HK1.out; first | omega | exact Nat.le_refl _⟩, ⟨by (with_reducible repeat (first | refine blk_drewN ?_ _ | refine blk_drew ?_ | refine blk_alloc ?_ _)); exact BK329.out⟩, ⟨by (with_reducible repeat (first | refine blk_drewN ?_ _ | refine blk_drew ?_ | refine blk_alloc ?_ _)); exact BK331.out⟩, ⟨bl HB.out⟩⟩
   case rest =>
    clear HC7
    try clear c1
    try clear p2
    try clear c12
    try clear c19
    try clear c19b0
    obtain ⟨kq, x49_6, rfl, HA, HJ6, BK329, BK331, HB⟩ := hcut
    cases kq with
    | zero => exact absurd HA.out (by simp [impl_Bridge_rootPort.j1])
    | succ kj6 =>
     have H := HA.out
     clear HA
     simp only [impl_Bridge_rootPort.j1] at H
     by_cases c26 : x49_6 = true
     case pos =>
      subst c26
      have H1 : (impl_Bridge_rootPort.l0 kj6 x3_1 l0_1 (l0_1.length : Int) (wrap64 (x11_1 + 1)) a0_0 l0_1) = some r := by rw [if_pos rfl] at H; exact H
      clear H
      have H := H1
      clear H1
      have H' := aM H
      clear H
      go_wp2
      go_roundg kj6
      case measure => have := HK1.out; have := HJ6.out; omega
      case rel => (try rw [← Nbq11.out]); exact ⟨(x3_1), (wrap64 (x11_1 + 1)), xE, xE, H', ⟨by have := HK1.out; have := HJ6.out; omega⟩, ⟨by (with_reducible repeat (first | refine blk_drewN ?_ _ | refine blk_drew ?_ | refine blk_alloc ?_ _)); exact BK329.out⟩, ⟨bl HB.out⟩⟩
     replace c26 := Bool.eq_false_iff.mpr c26
     subst c26
     have H1 : (if x3_1 < 0 then (impl_Bridge_rootPort.l0 kj6 x11_1 l0_1 (l0_1.length : Int) (wrap64 (x11_1 + 1)) a0_0 l0_1) else (if 0 ≤ x3_1 then (if x3_1 < (l0_1.length : Int) then ((impl_Better.f kj6 ((rd_T79 l0_1 x11_1).f2.f0) ((rd_T79 l0_1 x11_1).f2.f1) ((rd_T79 l0_1 x11_1).f2.f2) ((rd_T79 l0_1 x11_1).f2.f3) ((rd_T79 l0_1 x3_1).f2.f0) ((rd_T79 l0_1 x3_1).f2.f1) ((rd_T79 l0_1 x3_1).f2.f2) ((rd_T79 l0_1 x3_1).f2.f3)).bind fun t333 => (if t333 = true then (impl_Bridge_rootPort.l0 kj6 x11_1 l0_1 (l0_1.length : Int) (wrap64 (x11_1 + 1)) a0_0 l0_1) else (impl_Bridge_rootPort.l0 kj6 x3_1 l0_1 (l0_1.length : Int) (wrap64 (x11_1 + 1)) a0_0 l0_1))) else (none)) else (none))) = some r := by rw [if_neg (show ¬ (false = true) by decide)] at H; exact H
     clear H
     have H := H1
     clear H1
     by_cases c27 : x3_1 < 0
     case pos =>
      rw [if_pos c27] at H
      have c27b0 : decide (x3_1 < 0) = true := decide_eq_true c27
      clear c27
      have H' := aM H
      clear H
      try go_wp2
      replace BK329 := aM (blk_drew BK329.out)
      replace BK331 := aM (blk_drew BK331.out)
      replace HB := aM (below_drew1 HB.out)
      refine start_ (n := 15) (S := fun w' => True) (ds := []) (dn 15 0) (by kernel_rfl) rfl rfl trivial (fun hHeld => ?_); refine with_tabW impl_Bridge_rootPort.tab6 impl_Bridge_rootPort.bits6 (fun HT_ HW_ => ?_)
      generalize wc.drew = w28 at BK329 BK331 HB hHeld ⊢
      refine nY (N := some 50) HT_ ?_
      refine nY (N := some 51) HT_ ?_
      refine nY (N := some 52) HT_ ?_
      refine nU (N := some 53) HT_ ?_
      refine nU (N := some 54) HT_ ?_
      refine nU (N := some 55) HT_ ?_
      refine nU (N := some 56) HT_ ?_
      refine nU (N := some 57) HT_ ?_
      refine nU (N := some 58) HT_ ?_
      refine nU (N := some 59) HT_ ?_
      refine nU (N := some 60) HT_ ?_
      refine nU (N := some 61) HT_ ?_
      refine nU (N := some 62) HT_ ?_
      refine nU (N := some 63) HT_ ?_
      refine nY (N := some 64) HT_ ?_
      refine done_ (done_of HT_.out (by kernel_rfl)) ?_
      try go_wp2
      go_roundg kj6
      case measure => have := HK1.out; have := HJ6.out; omega
      case rel => (try rw [← Nbq11.out]); exact ⟨(x11_1), (wrap64 (x11_1 + 1)), xE, xE, H', ⟨by have := HK1.out; have := HJ6.out; omega⟩, ⟨by (with_reducible repeat (first | refine blk_drewN ?_ _ | refine blk_drew ?_ | refine blk_alloc ?_ _)); exact BK329.out⟩, ⟨bl HB.out⟩⟩
     rw [if_neg c27] at H
     have c27b0 : decide (x3_1 < 0) = false := decide_eq_false c27
     clear c27
     by_cases c29 : 0 ≤ x3_1
     case neg =>
      rw [if_neg c29] at H
      exact absurd H (by simp)
     rw [if_pos c29] at H
     have c29b0 : decide (0 ≤ x3_1) = true := decide_eq_true c29
     clear c29
     by_cases c30 : x3_1 < (l0_1.length : Int)
     case neg =>
      rw [if_neg c30] at H
      exact absurd H (by simp)
     rw [if_pos c30] at H
     have c30b0 : decide (x3_1 < (l0_1.length : Int)) = true := decide_eq_true c30
     clear c30
     replace H := Option.bind_eq_some_iff.mp H
     obtain ⟨t333, A310, H⟩ := H
     replace H : (if t333 = true then (impl_Bridge_rootPort.l0 kj6 x11_1 l0_1 (l0_1.length : Int) (wrap64 (x11_1 + 1)) a0_0 l0_1) else (impl_Bridge_rootPort.l0 kj6 x3_1 l0_1 (l0_1.length : Int) (wrap64 (x11_1 + 1)) a0_0 l0_1)) = some r := H
     have A31 := aM A310
     clear A310
     by_cases c32 : t333 = true
     case pos =>
      subst c32
      have H1 : (impl_Bridge_rootPort.l0 kj6 x11_1 l0_1 (l0_1.length : Int) (wrap64 (x11_1 + 1)) a0_0 l0_1) = some r := by rw [if_pos rfl] at H; exact H
      clear H
      have H := H1
      clear H1
      have H' := aM H
      clear H
      try go_wp2
      replace BK329 := aM (blk_drew BK329.out)
      replace BK331 := aM (blk_drew BK331.out)
      replace HB := aM (below_drew1 HB.out)
      have p332 : 0 ≤ (x3_1 : Int) := of_decide_eq_true (by first | (with_reducible assumption) | assumption)
      have q332 : x3_1 < (l0_1.length : Int) := of_decide_eq_true (by first | (with_reducible assumption) | assumption)
      obtain ⟨ad332, e332, hx332_0, hx332_1, hx332_2, hx332_3, hx332_4, hx332_5, hx332_6, hx332_7, hx332_8, hx332_9, hx332_10⟩ := at_T79 HR0_1.out x3_1 p332 q332
      have hw332_10 := hx332_10
      have hw332_9 := hx332_9
      have hw332_8 := hx332_8
      have hw332_7 := hx332_7
      have hw332_6 := hx332_6
      have hw332_5 := hx332_5
      have hw332_4 := hx332_4
      have hw332_3 := hx332_3
      have hw332_2 := hx332_2
      have hw332_1 := hx332_1
      have hw332_0 := hx332_0
      obtain rfl : ad330 = ad332 := (by injection e332)
      replace hx332_0 := xB HB hx332_0
      replace hx332_1 := xB HB hx332_1
      replace hx332_2 := xB HB hx332_2
      replace hx332_3 := xB HB hx332_3
      replace hx332_4 := xB HB hx332_4
      replace hx332_5 := xB HB hx332_5
      replace hx332_6 := xB HB hx332_6
      replace hx332_7 := xB HB hx332_7
      replace hx332_8 := xB HB hx332_8
      replace hx332_9 := xB HB hx332_9
      replace hx332_10 := xB HB hx332_10
      replace p332 := eq_true p332
      replace q332 := eq_true q332
      refine start_ (n := 15) (S := fun w' => cT11 w' gb331 (.bool ((rd_T79 l0_1 x11_1).f0)) (.bool ((rd_T79 l0_1 x11_1).f1)) (.int .i64 ((rd_T79 l0_1 x11_1).f2.f0)) (.int .i64 ((rd_T79 l0_1 x11_1).f2.f1)) (.int .i64 ((rd_T79 l0_1 x11_1).f2.f2)) (.int .i64 ((rd_T79 l0_1 x11_1).f2.f3)) (.int .i64 ((rd_T79 l0_1 x11_1).f3)) (.int .i64 ((rd_T79 l0_1 x11_1).f4)) (.int .i64 ((rd_T79 l0_1 x11_1).f5)) (.int .i64 ((rd_T79 l0_1 x11_1).f6)) (.bool ((rd_T79 l0_1 x11_1).f7)) (cT2 w' gb (.int .i64 a0_0) (.slice (some ad330) l0_1.length c0_1) (w'.cell? (ad330.add ((x3_1).toNat * 11)) = some (.bool ((rd_T79 l0_1 x3_1).f0)) ∧ w'.cell? ⟨(ad330.add ((x3_1).toNat * 11)).block, (ad330.add ((x3_1).toNat * 11)).off + 1, none⟩ = some (.bool ((rd_T79 l0_1 x3_1).f1)) ∧ w'.cell? ⟨(ad330.add ((x3_1).toNat * 11)).block, (ad330.add ((x3_1).toNat * 11)).off + 2, none⟩ = some (.int .i64 ((rd_T79 l0_1 x3_1).f2.f0)) ∧ w'.cell? ⟨(ad330.add ((x3_1).toNat * 11)).block, (ad330.add ((x3_1).toNat * 11)).off + 3, none⟩ = some (.int .i64 ((rd_T79 l0_1 x3_1).f2.f1)) ∧ w'.cell? ⟨(ad330.add ((x3_1).toNat * 11)).block, (ad330.add ((x3_1).toNat * 11)).off + 4, none⟩ = some (.int .i64 ((rd_T79 l0_1 x3_1).f2.f2)) ∧ w'.cell? ⟨(ad330.add ((x3_1).toNat * 11)).block, (ad330.add ((x3_1).toNat * 11)).off + 5, none⟩ = some (.int .i64 ((rd_T79 l0_1 x3_1).f2.f3)) ∧ w'.cell? ⟨(ad330.add ((x3_1).toNat * 11)).block, (ad330.add ((x3_1).toNat * 11)).off + 6, none⟩ = some (.int .i64 ((rd_T79 l0_1 x3_1).f3)) ∧ w'.cell? ⟨(ad330.add ((x3_1).toNat * 11)).block, (ad330.add ((x3_1).toNat * 11)).off + 7, none⟩ = some (.int .i64 ((rd_T79 l0_1 x3_1).f4)) ∧ w'.cell? ⟨(ad330.add ((x3_1).toNat * 11)).block, (ad330.add ((x3_1).toNat * 11)).off + 8, none⟩ = some (.int .i64 ((rd_T79 l0_1 x3_1).f5)) ∧ w'.cell? ⟨(ad330.add ((x3_1).toNat * 11)).block, (ad330.add ((x3_1).toNat * 11)).off + 9, none⟩ = some (.int .i64 ((rd_T79 l0_1 x3_1).f6)) ∧ w'.cell? ⟨(ad330.add ((x3_1).toNat * 11)).block, (ad330.add ((x3_1).toNat * 11)).off + 10, none⟩ = some (.bool ((rd_T79 l0_1 x3_1).f7))))) (ds := []) (dn 15 0) (by kernel_rfl) rfl rfl ⟨cI BK331.out 0, cI BK331.out 1, cI BK331.out 2, cI BK331.out 3, cI BK331.out 4, cI BK331.out 5, cI BK331.out 6, cI BK331.out 7, cI BK331.out 8, cI BK331.out 9, cI BK331.out 10, cI BK329.out 0, cI BK329.out 1, ((HB.out.cell (World.block_lt_of_cell? w _ hw332_0)).trans hw332_0), ((HB.out.cell (World.block_lt_of_cell? w _ hw332_1)).trans hw332_1), ((HB.out.cell (World.block_lt_of_cell? w _ hw332_2)).trans hw332_2), ((HB.out.cell (World.block_lt_of_cell? w _ hw332_3)).trans hw332_3), ((HB.out.cell (World.block_lt_of_cell? w _ hw332_4)).trans hw332_4), ((HB.out.cell (World.block_lt_of_cell? w _ hw332_5)).trans hw332_5), ((HB.out.cell (World.block_lt_of_cell? w _ hw332_6)).trans hw332_6), ((HB.out.cell (World.block_lt_of_cell? w _ hw332_7)).trans hw332_7), ((HB.out.cell (World.block_lt_of_cell? w _ hw332_8)).trans hw332_8), ((HB.out.cell (World.block_lt_of_cell? w _ hw332_9)).trans hw332_9), ((HB.out.cell (World.block_lt_of_cell? w _ hw332_10)).trans hw332_10)⟩ (fun hHeld => ?_); refine with_tabW impl_Bridge_rootPort.tab6 impl_Bridge_rootPort.bits6 (fun HT_ HW_ => ?_)
      generalize wc.drew = w33 at BK329 BK331 HB hx332_0 hx332_1 hx332_10 hx332_2 hx332_3 hx332_4 hx332_5 hx332_6 hx332_7 hx332_8 hx332_9 hHeld ⊢
      refine nY (N := some 50) HT_ ?_
      refine nY (N := some 51) HT_ ?_
      refine nY (N := some 52) HT_ ?_
      refine nY (N := some 53) HT_ ?_
      refine pY (i := 5) (N := some 55) #[Y,Y,Y,Y,U,Y,U,U,U,U,U,U,U,U,U] HT_ ?_
      refine pY (i := 6) (N := some 56) #[Y,Y,Y,Y,U,Y,Y,U,U,U,U,U,U,U,U] HT_ ?_
      refine pY (i := 7) (N := some 57) #[Y,Y,Y,Y,U,Y,Y,Y,U,U,U,U,U,U,U] HT_ ?_
      refine pY (i := 9) (N := some 59) #[Y,Y,Y,Y,U,Y,Y,Y,U,Y,U,U,U,U,U] HT_ ?_
      refine aY (i := 4) (N := some 54) #[Y,Y,Y,Y,Y,Y,Y,Y,U,Y,U,U,U,U,U] HT_ HW_ hHeld ?_
      refine aY (i := 8) (N := some 58) #[Y,Y,Y,Y,Y,Y,Y,Y,Y,Y,U,U,U,U,U] HT_ HW_ hHeld ?_
      refine pY (i := 10) (N := some 60) #[Y,Y,Y,Y,Y,Y,Y,Y,Y,Y,Y,U,U,U,U] HT_ ?_
      refine pY (i := 11) (N := some 61) #[Y,Y,Y,Y,Y,Y,Y,Y,Y,Y,Y,Y,U,U,U] HT_ ?_
      refine aY (i := 12) (N := some 62) #[Y,Y,Y,Y,Y,Y,Y,Y,Y,Y,Y,Y,Y,U,U] HT_ HW_ hHeld ?_
      refine one_ (i := 13) (N := some 63) #[Y,Y,Y,Y,Y,Y,Y,Y,Y,Y,Y,Y,Y,Y,U] rfl rfl (one_of HT_.out (by kernel_rfl)) (by decide) (fun K hK => ?_)
      refine goes_ Try.func47 (by kernel_rfl) rfl #[.agg #[.int .i64 ((rd_T79 l0_1 x11_1).f2.f0), .int .i64 ((rd_T79 l0_1 x11_1).f2.f1), .int .i64 ((rd_T79 l0_1 x11_1).f2.f2), .int .i64 ((rd_T79 l0_1 x11_1).f2.f3)], .agg #[.int .i64 ((rd_T79 l0_1 x3_1).f2.f0), .int .i64 ((rd_T79 l0_1 x3_1).f2.f1), .int .i64 ((rd_T79 l0_1 x3_1).f2.f2), .int .i64 ((rd_T79 l0_1 x3_1).f2.f3)]] (by rfl) rfl rfl xR ?_
      with_reducible refine (impl_Better.calls kj6 ((rd_T79 l0_1 x11_1).f2.f0) ((rd_T79 l0_1 x11_1).f2.f1) ((rd_T79 l0_1 x11_1).f2.f2) ((rd_T79 l0_1 x11_1).f2.f3) ((rd_T79 l0_1 x3_1).f2.f0) ((rd_T79 l0_1 x3_1).f2.f1) ((rd_T79 l0_1 x3_1).f2.f2) ((rd_T79 l0_1 x3_1).f2.f3) true _ A31.out).mono ?_
      rintro e w34 ⟨rfl, hb⟩
      refine ⟨_, rfl, ?_⟩
      replace BK329 := aM (bB (bk BK329.out) hb)
      replace BK331 := aM (bB (bk BK331.out) hb)
      replace HB := aM (bS (bl HB.out) hb)
      (try clear hb)
      (try clear hb2)
      (try clear hk)
      (try clear hi)
      refine hK.out _ _ ⟨cI BK331.out 0, cI BK331.out 1, cI BK331.out 2, cI BK331.out 3, cI BK331.out 4, cI BK331.out 5, cI BK331.out 6, cI BK331.out 7, cI BK331.out 8, cI BK331.out 9, cI BK331.out 10, cI BK329.out 0, cI BK329.out 1, ((HB.out.cell (World.block_lt_of_cell? w _ hw332_0)).trans hw332_0), ((HB.out.cell (World.block_lt_of_cell? w _ hw332_1)).trans hw332_1), ((HB.out.cell (World.block_lt_of_cell? w _ hw332_2)).trans hw332_2), ((HB.out.cell (World.block_lt_of_cell? w _ hw332_3)).trans hw332_3), ((HB.out.cell (World.block_lt_of_cell? w _ hw332_4)).trans hw332_4), ((HB.out.cell (World.block_lt_of_cell? w _ hw332_5)).trans hw332_5), ((HB.out.cell (World.block_lt_of_cell? w _ hw332_6)).trans hw332_6), ((HB.out.cell (World.block_lt_of_cell? w _ hw332_7)).trans hw332_7), ((HB.out.cell (World.block_lt_of_cell? w _ hw332_8)).trans hw332_8), ((HB.out.cell (World.block_lt_of_cell? w _ hw332_9)).trans hw332_9), ((HB.out.cell (World.block_lt_of_cell? w _ hw332_10)).trans hw332_10)⟩ (fun hHeld => ?_)
      clear hK K
      refine norm_ (a' := ?_) ?_ ?_
      rotate_left
      ·show Act.put _ (some 63) _ = _
       simp only [Act.put, sA, sZ, sS, i64_w, i32_w]
       rfl
      refine pY (i := 14) (N := some 64) #[Y,Y,Y,Y,Y,Y,Y,Y,Y,Y,Y,Y,Y,Y,Y] HT_ ?_
      refine done_ (done_of HT_.out (by kernel_rfl)) ?_
      try go_wp2
      go_roundg kj6
      case measure => have := HK1.out; have := HJ6.out; omega
      case rel => (try rw [← Nbq11.out]); exact ⟨(x11_1), (wrap64 (x11_1 + 1)), xE, xE, H', ⟨by have := HK1.out; have := HJ6.out; omega⟩, ⟨by (with_reducible repeat (first | refine blk_drewN ?_ _ | refine blk_drew ?_ | refine blk_alloc ?_ _)); exact BK329.out⟩, ⟨bl HB.out⟩⟩
     replace c32 := Bool.eq_false_iff.mpr c32
     subst c32
     have H1 : (impl_Bridge_rootPort.l0 kj6 x3_1 l0_1 (l0_1.length : Int) (wrap64 (x11_1 + 1)) a0_0 l0_1) = some r := by rw [if_neg (show ¬ (false = true) by decide)] at H; exact H
     clear H
     have H := H1
     clear H1
     have H' := aM H
     clear H
     try go_wp2
     replace BK329 := aM (blk_drew BK329.out)
     replace BK331 := aM (blk_drew BK331.out)
     replace HB := aM (below_drew1 HB.out)
     have p332 : 0 ≤ (x3_1 : Int) := of_decide_eq_true (by first | (with_reducible assumption) | assumption)
     have q332 : x3_1 < (l0_1.length : Int) := of_decide_eq_true (by first | (with_reducible assumption) | assumption)
     obtain ⟨ad332, e332, hx332_0, hx332_1, hx332_2, hx332_3, hx332_4, hx332_5, hx332_6, hx332_7, hx332_8, hx332_9, hx332_10⟩ := at_T79 HR0_1.out x3_1 p332 q332
     have hw332_10 := hx332_10
     have hw332_9 := hx332_9
     have hw332_8 := hx332_8
     have hw332_7 := hx332_7
     have hw332_6 := hx332_6
     have hw332_5 := hx332_5
     have hw332_4 := hx332_4
     have hw332_3 := hx332_3
     have hw332_2 := hx332_2
     have hw332_1 := hx332_1
     have hw332_0 := hx332_0
     obtain rfl : ad330 = ad332 := (by injection e332)
     replace hx332_0 := xB HB hx332_0
     replace hx332_1 := xB HB hx332_1
     replace hx332_2 := xB HB hx332_2
     replace hx332_3 := xB HB hx332_3
     replace hx332_4 := xB HB hx332_4
     replace hx332_5 := xB HB hx332_5
     replace hx332_6 := xB HB hx332_6
     replace hx332_7 := xB HB hx332_7
     replace hx332_8 := xB HB hx332_8
     replace hx332_9 := xB HB hx332_9
     replace hx332_10 := xB HB hx332_10
     replace p332 := eq_true p332
     replace q332 := eq_true q332
     refine start_ (n := 15) (S := fun w' => cT11 w' gb331 (.bool ((rd_T79 l0_1 x11_1).f0)) (.bool ((rd_T79 l0_1 x11_1).f1)) (.int .i64 ((rd_T79 l0_1 x11_1).f2.f0)) (.int .i64 ((rd_T79 l0_1 x11_1).f2.f1)) (.int .i64 ((rd_T79 l0_1 x11_1).f2.f2)) (.int .i64 ((rd_T79 l0_1 x11_1).f2.f3)) (.int .i64 ((rd_T79 l0_1 x11_1).f3)) (.int .i64 ((rd_T79 l0_1 x11_1).f4)) (.int .i64 ((rd_T79 l0_1 x11_1).f5)) (.int .i64 ((rd_T79 l0_1 x11_1).f6)) (.bool ((rd_T79 l0_1 x11_1).f7)) (cT2 w' gb (.int .i64 a0_0) (.slice (some ad330) l0_1.length c0_1) (w'.cell? (ad330.add ((x3_1).toNat * 11)) = some (.bool ((rd_T79 l0_1 x3_1).f0)) ∧ w'.cell? ⟨(ad330.add ((x3_1).toNat * 11)).block, (ad330.add ((x3_1).toNat * 11)).off + 1, none⟩ = some (.bool ((rd_T79 l0_1 x3_1).f1)) ∧ w'.cell? ⟨(ad330.add ((x3_1).toNat * 11)).block, (ad330.add ((x3_1).toNat * 11)).off + 2, none⟩ = some (.int .i64 ((rd_T79 l0_1 x3_1).f2.f0)) ∧ w'.cell? ⟨(ad330.add ((x3_1).toNat * 11)).block, (ad330.add ((x3_1).toNat * 11)).off + 3, none⟩ = some (.int .i64 ((rd_T79 l0_1 x3_1).f2.f1)) ∧ w'.cell? ⟨(ad330.add ((x3_1).toNat * 11)).block, (ad330.add ((x3_1).toNat * 11)).off + 4, none⟩ = some (.int .i64 ((rd_T79 l0_1 x3_1).f2.f2)) ∧ w'.cell? ⟨(ad330.add ((x3_1).toNat * 11)).block, (ad330.add ((x3_1).toNat * 11)).off + 5, none⟩ = some (.int .i64 ((rd_T79 l0_1 x3_1).f2.f3)) ∧ w'.cell? ⟨(ad330.add ((x3_1).toNat * 11)).block, (ad330.add ((x3_1).toNat * 11)).off + 6, none⟩ = some (.int .i64 ((rd_T79 l0_1 x3_1).f3)) ∧ w'.cell? ⟨(ad330.add ((x3_1).toNat * 11)).block, (ad330.add ((x3_1).toNat * 11)).off + 7, none⟩ = some (.int .i64 ((rd_T79 l0_1 x3_1).f4)) ∧ w'.cell? ⟨(ad330.add ((x3_1).toNat * 11)).block, (ad330.add ((x3_1).toNat * 11)).off + 8, none⟩ = some (.int .i64 ((rd_T79 l0_1 x3_1).f5)) ∧ w'.cell? ⟨(ad330.add ((x3_1).toNat * 11)).block, (ad330.add ((x3_1).toNat * 11)).off + 9, none⟩ = some (.int .i64 ((rd_T79 l0_1 x3_1).f6)) ∧ w'.cell? ⟨(ad330.add ((x3_1).toNat * 11)).block, (ad330.add ((x3_1).toNat * 11)).off + 10, none⟩ = some (.bool ((rd_T79 l0_1 x3_1).f7))))) (ds := []) (dn 15 0) (by kernel_rfl) rfl rfl ⟨cI BK331.out 0, cI BK331.out 1, cI BK331.out 2, cI BK331.out 3, cI BK331.out 4, cI BK331.out 5, cI BK331.out 6, cI BK331.out 7, cI BK331.out 8, cI BK331.out 9, cI BK331.out 10, cI BK329.out 0, cI BK329.out 1, ((HB.out.cell (World.block_lt_of_cell? w _ hw332_0)).trans hw332_0), ((HB.out.cell (World.block_lt_of_cell? w _ hw332_1)).trans hw332_1), ((HB.out.cell (World.block_lt_of_cell? w _ hw332_2)).trans hw332_2), ((HB.out.cell (World.block_lt_of_cell? w _ hw332_3)).trans hw332_3), ((HB.out.cell (World.block_lt_of_cell? w _ hw332_4)).trans hw332_4), ((HB.out.cell (World.block_lt_of_cell? w _ hw332_5)).trans hw332_5), ((HB.out.cell (World.block_lt_of_cell? w _ hw332_6)).trans hw332_6), ((HB.out.cell (World.block_lt_of_cell? w _ hw332_7)).trans hw332_7), ((HB.out.cell (World.block_lt_of_cell? w _ hw332_8)).trans hw332_8), ((HB.out.cell (World.block_lt_of_cell? w _ hw332_9)).trans hw332_9), ((HB.out.cell (World.block_lt_of_cell? w _ hw332_10)).trans hw332_10)⟩ (fun hHeld => ?_); refine with_tabW impl_Bridge_rootPort.tab6 impl_Bridge_rootPort.bits6 (fun HT_ HW_ => ?_)
     generalize wc.drew = w35 at BK329 BK331 HB hx332_0 hx332_1 hx332_10 hx332_2 hx332_3 hx332_4 hx332_5 hx332_6 hx332_7 hx332_8 hx332_9 hHeld ⊢
     refine nY (N := some 50) HT_ ?_
     refine nY (N := some 51) HT_ ?_
     refine nY (N := some 52) HT_ ?_
     refine nY (N := some 53) HT_ ?_
     refine pY (i := 5) (N := some 55) #[Y,Y,Y,Y,U,Y,U,U,U,U,U,U,U,U,U] HT_ ?_
     refine pY (i := 6) (N := some 56) #[Y,Y,Y,Y,U,Y,Y,U,U,U,U,U,U,U,U] HT_ ?_
     refine pY (i := 7) (N := some 57) #[Y,Y,Y,Y,U,Y,Y,Y,U,U,U,U,U,U,U] HT_ ?_
     refine pY (i := 9) (N := some 59) #[Y,Y,Y,Y,U,Y,Y,Y,U,Y,U,U,U,U,U] HT_ ?_
     refine aY (i := 4) (N := some 54) #[Y,Y,Y,Y,Y,Y,Y,Y,U,Y,U,U,U,U,U] HT_ HW_ hHeld ?_
     refine aY (i := 8) (N := some 58) #[Y,Y,Y,Y,Y,Y,Y,Y,Y,Y,U,U,U,U,U] HT_ HW_ hHeld ?_
     refine pY (i := 10) (N := some 60) #[Y,Y,Y,Y,Y,Y,Y,Y,Y,Y,Y,U,U,U,U] HT_ ?_
     refine pY (i := 11) (N := some 61) #[Y,Y,Y,Y,Y,Y,Y,Y,Y,Y,Y,Y,U,U,U] HT_ ?_
     refine aY (i := 12) (N := some 62) #[Y,Y,Y,Y,Y,Y,Y,Y,Y,Y,Y,Y,Y,U,U] HT_ HW_ hHeld ?_
     refine one_ (i := 13) (N := some 63) #[Y,Y,Y,Y,Y,Y,Y,Y,Y,Y,Y,Y,Y,Y,U] rfl rfl (one_of HT_.out (by kernel_rfl)) (by decide) (fun K hK => ?_)
     refine goes_ Try.func47 (by kernel_rfl) rfl #[.agg #[.int .i64 ((rd_T79 l0_1 x11_1).f2.f0), .int .i64 ((rd_T79 l0_1 x11_1).f2.f1), .int .i64 ((rd_T79 l0_1 x11_1).f2.f2), .int .i64 ((rd_T79 l0_1 x11_1).f2.f3)], .agg #[.int .i64 ((rd_T79 l0_1 x3_1).f2.f0), .int .i64 ((rd_T79 l0_1 x3_1).f2.f1), .int .i64 ((rd_T79 l0_1 x3_1).f2.f2), .int .i64 ((rd_T79 l0_1 x3_1).f2.f3)]] (by rfl) rfl rfl xR ?_
     with_reducible refine (impl_Better.calls kj6 ((rd_T79 l0_1 x11_1).f2.f0) ((rd_T79 l0_1 x11_1).f2.f1) ((rd_T79 l0_1 x11_1).f2.f2) ((rd_T79 l0_1 x11_1).f2.f3) ((rd_T79 l0_1 x3_1).f2.f0) ((rd_T79 l0_1 x3_1).f2.f1) ((rd_T79 l0_1 x3_1).f2.f2) ((rd_T79 l0_1 x3_1).f2.f3) false _ A31.out).mono ?_
     rintro e w36 ⟨rfl, hb⟩
     refine ⟨_, rfl, ?_⟩
     replace BK329 := aM (bB (bk BK329.out) hb)
     replace BK331 := aM (bB (bk BK331.out) hb)
     replace HB := aM (bS (bl HB.out) hb)
     (try clear hb)
     (try clear hb2)
     (try clear hk)
     (try clear hi)
     refine hK.out _ _ ⟨cI BK331.out 0, cI BK331.out 1, cI BK331.out 2, cI BK331.out 3, cI BK331.out 4, cI BK331.out 5, cI BK331.out 6, cI BK331.out 7, cI BK331.out 8, cI BK331.out 9, cI BK331.out 10, cI BK329.out 0, cI BK329.out 1, ((HB.out.cell (World.block_lt_of_cell? w _ hw332_0)).trans hw332_0), ((HB.out.cell (World.block_lt_of_cell? w _ hw332_1)).trans hw332_1), ((HB.out.cell (World.block_lt_of_cell? w _ hw332_2)).trans hw332_2), ((HB.out.cell (World.block_lt_of_cell? w _ hw332_3)).trans hw332_3), ((HB.out.cell (World.block_lt_of_cell? w _ hw332_4)).trans hw332_4), ((HB.out.cell (World.block_lt_of_cell? w _ hw332_5)).trans hw332_5), ((HB.out.cell (World.block_lt_of_cell? w _ hw332_6)).trans hw332_6), ((HB.out.cell (World.block_lt_of_cell? w _ hw332_7)).trans hw332_7), ((HB.out.cell (World.block_lt_of_cell? w _ hw332_8)).trans hw332_8), ((HB.out.cell (World.block_lt_of_cell? w _ hw332_9)).trans hw332_9), ((HB.out.cell (World.block_lt_of_cell? w _ hw332_10)).trans hw332_10)⟩ (fun hHeld => ?_)
     clear hK K
     refine norm_ (a' := ?_) ?_ ?_
     rotate_left
     ·show Act.put _ (some 63) _ = _
      simp only [Act.put, sA, sZ, sS, i64_w, i32_w]
      rfl
     refine pY (i := 14) (N := some 64) #[Y,Y,Y,Y,Y,Y,Y,Y,Y,Y,Y,Y,Y,Y,Y] HT_ ?_
     refine done_ (done_of HT_.out (by kernel_rfl)) ?_
     try go_wp2
     go_roundg kj6
     case measure => have := HK1.out; have := HJ6.out; omega
     case rel => (try rw [← Nbq11.out]); exact ⟨(x3_1), (wrap64 (x11_1 + 1)), xE, xE, H', ⟨by have := HK1.out; have := HJ6.out; omega⟩, ⟨by (with_reducible repeat (first | refine blk_drewN ?_ _ | refine blk_drew ?_ | refine blk_alloc ?_ _)); exact BK329.out⟩, ⟨bl HB.out⟩⟩

end Go.Proofs.Ythmijfekdeagpaa.PFnExactDecide
