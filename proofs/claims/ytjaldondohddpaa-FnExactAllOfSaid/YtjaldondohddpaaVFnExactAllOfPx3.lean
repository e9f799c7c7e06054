/- Of the proof of laws.FnExactAllOf: a part. No condition beyond what its theorems say. -/
import Derived.Test.YtjaldondohddpaaVFnExactAllOfPx0
namespace Go.Proofs.Ytjaldondohddpaa.PFnExactAllOf
open Go.RowKit Go.Proofs.YtjaldondohddpaaW.PrintWords Go.Proofs.YtjaldondohddpaaW.PrintLast Go.Proofs.YtjaldondohddpaaW.PrintMore
attribute [local go_sem] max2_int min2_int max_two min_two max_three min_three max_four min_four   -- for this text's walks alone
set_option linter.unusedVariables false
set_option linter.unusedSimpArgs false

def laws_eqByteS.l0 : Nat → List Int → List Int → Int → Option (Bool)
 | 0, _, _, _ => none
 | k + 1, x0, x1, x5 => if x5 < (x0.length : Int) then (if 0 ≤ x5 then (if x5 < (x1.length : Int) then (if (rd x0 x5) = (rd x1 x5) then (laws_eqByteS.l0 k x0 x1 (wrap64 (x5 + 1))) else (some false)) else (none)) else (none)) else (some true)
def laws_eqByteS.f (k : Nat) (l0 : List Int) (l1 : List Int) : Option (Bool) := if (l0.length : Int) = (l1.length : Int) then (laws_eqByteS.l0 k l0 l1 0) else (some false)
theorem laws_eqByteS.mono_l : ∀ k, (∀ y0 y1 y2, LeO (laws_eqByteS.l0 k y0 y1 y2) (laws_eqByteS.l0 (k + 1) y0 y1 y2))
 | 0 => fun _ _ _ r h => by simp [laws_eqByteS.l0] at h
 | k + 1 => by
  have ih0 := laws_eqByteS.mono_l k
  ·intro y0 y1 y2
   unfold laws_eqByteS.l0
   repeat' first
   | (with_reducible exact ih0 _ _ _)
   | (with_reducible exact LeO.refl _)
   | (with_reducible exact LeO.none _)
   | (with_reducible refine LeO.ite ?_ ?_)
   | (with_reducible refine LeO.bind ?_ (fun _ => ?_))
   | exact ih0 _ _ _
   | exact LeO.none _
   | refine LeO.ite ?_ ?_
   | refine LeO.bind ?_ (fun _ => ?_)
theorem laws_eqByteS.mono : ∀ a0 a1 k, LeO (laws_eqByteS.f k a0 a1) (laws_eqByteS.f (k + 1) a0 a1) := by
 intro a0 a1 k
 have ih0 := laws_eqByteS.mono_l k
 unfold laws_eqByteS.f
 repeat' first
   | (with_reducible exact ih0 _ _ _)
   | (with_reducible exact LeO.refl _)
   | (with_reducible exact LeO.none _)
   | (with_reducible refine LeO.ite ?_ ?_)
   | (with_reducible refine LeO.bind ?_ (fun _ => ?_))
   | exact ih0 _ _ _
   | exact LeO.none _
   | refine LeO.ite ?_ ?_
   | refine LeO.bind ?_ (fun _ => ?_)
set_option maxHeartbeats 60000000 in
set_option maxRecDepth 100000 in
theorem laws_eqByteS.calls (k : Nat) (A0 : Option Addr) (c0 : Nat) (l0 : List Int) (A1 : Option Addr) (c1 : Nat) (l1 : List Int) (r : Bool) (w : World) (hr0 : Kd.C (Kd.int .u8) w A0 l0.length l0) (hc0 : l0.length ≤ c0) (hr1 : Kd.C (Kd.int .u8) w A1 l1.length l1) (hc1 : l1.length ≤ c1) (h : laws_eqByteS.f k l0 l1 = some r) :
  Calls Try.prog 44 #[.slice A0 l0.length c0, .slice A1 l1.length c1] w fun e w' => e = .returned (.bool r) ∧ Drawn0 w w' := by
 have HR0 := aM hr0
 have HC0 := aM hc0
 clear hr0 hc0
 have HR1 := aM hr1
 have HC1 := aM hc1
 clear hr1 hc1
 have H : (if (l0.length : Int) = (l1.length : Int) then (laws_eqByteS.l0 k l0 l1 0) else (some false)) = some r := h
 clear h
 by_cases c3 : (l0.length : Int) = (l1.length : Int)
 case neg =>
  rw [if_neg c3] at H
  have c3b0 : ((l0.length : Int) == (l1.length : Int)) = false := beq_eq_false_iff_ne.mpr c3
  have c3b1 : ((l0.length : Int) != (l1.length : Int)) = true := bne_iff_ne.mpr c3
  have c3b2 : (l0.length == l1.length) = false := by first | simpa using c3 | (simp at c3 ⊢; omega)
  obtain rfl := Option.some.inj H
  go_enter Try.func44, Try.ntmps44
  go_wp2
  repeat (go_quiet (fail); try go_wp2)
  go_ret
  exact ⟨by first | rfl | (simp; done) | (simp [*]; done), by repeat (first | exact Drawn0.refl _ | apply Drawn0.step)⟩
 rw [if_pos c3] at H
 have c3b0 : ((l0.length : Int) == (l1.length : Int)) = true := beq_iff_eq.mpr c3
 have c3b1 : ((l0.length : Int) != (l1.length : Int)) = false := bne_eq_false_iff_eq.mpr c3
 have c3b2 : (l0.length == l1.length) = true := by first | simpa using c3 | (simp at c3 ⊢; omega)
 clear c3
 have H' := aM H
 clear H
 go_enter Try.func44, Try.ntmps44
 go_wp2
 repeat (go_quiet (fail); try go_wp2)
 go_loopg [5] k (fun kq v5 w' => ∃ (x5_1 : Int), v5 = .int .i64 x5_1 ∧ Aside0 (laws_eqByteS.l0 kq l0 l1 x5_1 = some r) ∧ Aside0 (kq ≤ k) ∧ Drawn0 w w')
 case atStart => exact ⟨(0), xE, H', ⟨Nat.le_refl _⟩, by repeat (first | exact Drawn0.refl _ | apply Drawn0.step)⟩
 case round =>
  clear H'
  try clear c1
  try clear p2
  try clear c3
  try clear c3b0
  try clear c3b1
  try clear c3b2
  obtain ⟨x5_1, rfl, HA, HK1, ⟨m1, rfl⟩⟩ := hrel
  cases gk with
  | zero => exact absurd HA.out (by simp [laws_eqByteS.l0])
  | succ k1 =>
   have H := HA.out
   clear HA
   simp only [laws_eqByteS.l0] at H
   by_cases c4 : x5_1 < (l0.length : Int)
   case neg =>
    rw [if_neg c4] at H
    have c4b0 : decide (x5_1 < (l0.length : Int)) = false := decide_eq_false c4
    clear c4
    obtain rfl := Option.some.inj H
    go_wp2
    repeat (go_quiet (fail); try go_wp2)
    go_ret
    exact ⟨by first | rfl | (simp; done) | (simp [*]; done), by repeat (first | exact Drawn0.refl _ | apply Drawn0.step)⟩
   rw [if_pos c4] at H
   have c4b0 : decide (x5_1 < (l0.length : Int)) = true := decide_eq_true c4
   clear c4
   by_cases c5 : 0 ≤ x5_1
   case neg =>
    rw [if_neg c5] at H
    exact absurd H (by simp)
   rw [if_pos c5] at H
   have c5b0 : decide (0 ≤ x5_1) = true := decide_eq_true c5
   clear c5
   by_cases c6 : x5_1 < (l1.length : Int)
   case neg =>
    rw [if_neg c6] at H
    exact absurd H (by simp)
   rw [if_pos c6] at H
   have c6b0 : decide (x5_1 < (l1.length : Int)) = true := decide_eq_true c6
   clear c6
   by_cases c7 : (rd l0 x5_1) = (rd l1 x5_1)
   case neg =>
    rw [if_neg c7] at H
    have c7b0 : ((rd l0 x5_1) == (rd l1 x5_1)) = false := beq_eq_false_iff_ne.mpr c7
    have c7b1 : ((rd l0 x5_1) != (rd l1 x5_1)) = true := bne_iff_ne.mpr c7
    obtain rfl := Option.some.inj H
    have p101 : 0 ≤ (x5_1 : Int) := of_decide_eq_true (by first | (with_reducible assumption) | assumption)
    have q101 : x5_1 < (l0.length : Int) := of_decide_eq_true (by first | (with_reducible assumption) | assumption)
    obtain ⟨ad101, e101, hx101_0⟩ := Kd.at_int HR0.out x5_1 p101 q101
    cases e101
    replace p101 := eq_true p101
    replace q101 := eq_true q101
    have p102 : 0 ≤ (x5_1 : Int) := of_decide_eq_true (by first | (with_reducible assumption) | assumption)
    have q102 : x5_1 < (l1.length : Int) := of_decide_eq_true (by first | (with_reducible assumption) | assumption)
    obtain ⟨ad102, e102, hx102_0⟩ := Kd.at_int HR1.out x5_1 p102 q102
    cases e102
    replace p102 := eq_true p102
    replace q102 := eq_true q102
    go_wp2
    repeat (go_quiet (fail); try go_wp2)
    go_ret
    exact ⟨by first | rfl | (simp; done) | (simp [*]; done), by repeat (first | exact Drawn0.refl _ | apply Drawn0.step)⟩
   rw [if_pos c7] at H
   have c7b0 : ((rd l0 x5_1) == (rd l1 x5_1)) = true := beq_iff_eq.mpr c7
   have c7b1 : ((rd l0 x5_1) != (rd l1 x5_1)) = false := bne_eq_false_iff_eq.mpr c7
   clear c7
   have H' := aM H
   clear H
   have p101 : 0 ≤ (x5_1 : Int) := of_decide_eq_true (by first | (with_reducible assumption) | assumption)
   have q101 : x5_1 < (l0.length : Int) := of_decide_eq_true (by first | (with_reducible assumption) | assumption)
   obtain ⟨ad101, e101, hx101_0⟩ := Kd.at_int HR0.out x5_1 p101 q101
   cases e101
   replace p101 := eq_true p101
   replace q101 := eq_true q101
   have p102 : 0 ≤ (x5_1 : Int) := of_decide_eq_true (by first | (with_reducible assumption) | assumption)
   have q102 : x5_1 < (l1.length : Int) := of_decide_eq_true (by first | (with_reducible assumption) | assumption)
   obtain ⟨ad102, e102, hx102_0⟩ := Kd.at_int HR1.out x5_1 p102 q102
   cases e102
   replace p102 := eq_true p102
   replace q102 := eq_true q102
   go_wp2
   repeat (go_quiet (fail); try go_wp2)
   go_roundg k1
   case measure => have := HK1.out; omega
   case rel => exact ⟨(wrap64 (x5_1 + 1)), xE, H', ⟨by have := HK1.out; omega⟩, by repeat (first | exact Drawn0.refl _ | apply Drawn0.step)⟩

def laws_eqVec.f (a0_0 : Int) (a0_1 : Int) (a0_2 : Int) (a0_3 : Int) (a1_0 : Int) (a1_1 : Int) (a1_2 : Int) (a1_3 : Int) : Option (Bool) := if a0_0 = a1_0 then (if a0_1 = a1_1 then (if a0_2 = a1_2 then (if a0_3 = a1_3 then (some true) else (some false)) else (some false)) else (some false)) else (some false)
set_option maxHeartbeats 60000000 in
set_option maxRecDepth 100000 in
theorem laws_eqVec.calls (a0_0 : Int) (a0_1 : Int) (a0_2 : Int) (a0_3 : Int) (a1_0 : Int) (a1_1 : Int) (a1_2 : Int) (a1_3 : Int) (r : Bool) (w : World) (h : laws_eqVec.f a0_0 a0_1 a0_2 a0_3 a1_0 a1_1 a1_2 a1_3 = some r) :
  Calls Try.prog 117 #[.agg #[.int .i64 a0_0, .int .i64 a0_1, .int .i64 a0_2, .int .i64 a0_3], .agg #[.int .i64 a1_0, .int .i64 a1_1, .int .i64 a1_2, .int .i64 a1_3]] w fun e w' => e = .returned (.bool r) ∧ Below w.heap.size w w' := by
 have hu42 := Try.underlying42
 have HB := aM (Below.refl w.heap.size w)
 have H : (if a0_0 = a1_0 then (if a0_1 = a1_1 then (if a0_2 = a1_2 then (if a0_3 = a1_3 then (some true) else (some false)) else (some false)) else (some false)) else (some false)) = some r := h
 clear h
 by_cases c3 : a0_0 = a1_0
 case neg =>
  rw [if_neg c3] at H
  have c3b0 : (a0_0 == a1_0) = false := beq_eq_false_iff_ne.mpr c3
  have c3b1 : (a0_0 != a1_0) = true := bne_iff_ne.mpr c3
  obtain rfl := Option.some.inj H
  go_enter Try.func117, Try.ntmps117
  go_wp2_with (first | ((with_reducible refine gate_dst (N := 2) rfl ?_); refine box_event ?hg (N := 2) ?hd (cs := #[.int .i64 a0_0, .int .i64 a0_1, .int .i64 a0_2, .int .i64 a0_3]) (t := 42) ?hr ?_; (case hd => rfl); (case hg => rfl); (case hr => first | (go_simp; done) | (go_simp; rfl)); intro gb103 hg w27 hbox hb; have n0_ := aM (bS (bl HB.out) hb); have n1_ := aM (hbox); have n2_ := aM ((by rw [hg]; exact (below_size (bl HB.out)) : w.heap.size ≤ gb103)); have n3_ := aM ((by rw [hg]; exact (below_size (bl HB.out)) : w.heap.size ≤ gb103)); clear HB; have HB := n0_; have BK103 := n1_; have GW103 := n2_; have GE103 := n3_; clear n0_ n1_ n2_ n3_; clear hb hbox hg) | ((with_reducible refine gate_dst (N := 3) rfl ?_); refine box_event ?hg (N := 3) ?hd (cs := #[.int .i64 a1_0, .int .i64 a1_1, .int .i64 a1_2, .int .i64 a1_3]) (t := 42) ?hr ?_; (case hd => rfl); (case hg => rfl); (case hr => first | (go_simp; done) | (go_simp; rfl)); intro gb104 hg w28 hbox hb; have n0_ := aM (bB (g := gb103) (o := .cells #[.int .i64 a0_0, .int .i64 a0_1, .int .i64 a0_2, .int .i64 a0_3] 42 (0, 0)) (bk BK103.out) hb); have n1_ := aM (bS (bl HB.out) hb); have n2_ := aM (hbox); have n3_ := aM ((by rw [hg]; exact (below_size (bl HB.out)) : w.heap.size ≤ gb104)); have n4_ := aM ((by rw [hg]; exact (below_size (bl HB.out)) : w.heap.size ≤ gb104)); have n5_ := aM ((by rw [hg]; exact Nat.ne_of_lt (blk_lt (g := gb103) (o := .cells #[.int .i64 a0_0, .int .i64 a0_1, .int .i64 a0_2, .int .i64 a0_3] 42 (0, 0)) (bk BK103.out)) : gb103 ≠ gb104)); have n6_ := aM ((by rw [hg]; exact Nat.ne_of_gt (blk_lt (g := gb103) (o := .cells #[.int .i64 a0_0, .int .i64 a0_1, .int .i64 a0_2, .int .i64 a0_3] 42 (0, 0)) (bk BK103.out)) : gb104 ≠ gb103)); clear BK103 HB; have BK103 := n0_; have HB := n1_; have BK104 := n2_; have GW104 := n3_; have GE104 := n4_; have NB103_104 := n5_; have NB104_103 := n6_; clear n0_ n1_ n2_ n3_ n4_ n5_ n6_; clear hb hbox hg; have hnb29 := NB103_104.out; have hnc29 := NB104_103.out; have hcz30_0 := cI BK103.out 0; have hcz30_1 := cI BK103.out 1; have hcz30_2 := cI BK103.out 2; have hcz30_3 := cI BK103.out 3; have hfz30_0 := bF BK103.out 0; have hfz30_1 := bF BK103.out 1; have hfz30_2 := bF BK103.out 2; have hfz30_3 := bF BK103.out 3; have hcz31_0 := cI BK104.out 0; have hcz31_1 := cI BK104.out 1; have hcz31_2 := cI BK104.out 2; have hcz31_3 := cI BK104.out 3; have hfz31_0 := bF BK104.out 0; have hfz31_1 := bF BK104.out 1; have hfz31_2 := bF BK104.out 2; have hfz31_3 := bF BK104.out 3))
  go_ret
  exact ⟨xW, bl HB.out⟩
 rw [if_pos c3] at H
 have c3b0 : (a0_0 == a1_0) = true := beq_iff_eq.mpr c3
 have c3b1 : (a0_0 != a1_0) = false := bne_eq_false_iff_eq.mpr c3
 clear c3
 by_cases c4 : a0_1 = a1_1
 case neg =>
  rw [if_neg c4] at H
  have c4b0 : (a0_1 == a1_1) = false := beq_eq_false_iff_ne.mpr c4
  have c4b1 : (a0_1 != a1_1) = true := bne_iff_ne.mpr c4
  obtain rfl := Option.some.inj H
  go_enter Try.func117, Try.ntmps117
  go_wp2_with (first | ((with_reducible refine gate_dst (N := 2) rfl ?_); refine box_event ?hg (N := 2) ?hd (cs := #[.int .i64 a0_0, .int .i64 a0_1, .int .i64 a0_2, .int .i64 a0_3]) (t := 42) ?hr ?_; (case hd => rfl); (case hg => rfl); (case hr => first | (go_simp; done) | (go_simp; rfl)); intro gb103 hg w22 hbox hb; have n0_ := aM (bS (bl HB.out) hb); have n1_ := aM (hbox); have n2_ := aM ((by rw [hg]; exact (below_size (bl HB.out)) : w.heap.size ≤ gb103)); have n3_ := aM ((by rw [hg]; exact (below_size (bl HB.out)) : w.heap.size ≤ gb103)); clear HB; have HB := n0_; have BK103 := n1_; have GW103 := n2_; have GE103 := n3_; clear n0_ n1_ n2_ n3_; clear hb hbox hg) | ((with_reducible refine gate_dst (N := 3) rfl ?_); refine box_event ?hg (N := 3) ?hd (cs := #[.int .i64 a1_0, .int .i64 a1_1, .int .i64 a1_2, .int .i64 a1_3]) (t := 42) ?hr ?_; (case hd => rfl); (case hg => rfl); (case hr => first | (go_simp; done) | (go_simp; rfl)); intro gb104 hg w23 hbox hb; have n0_ := aM (bB (g := gb103) (o := .cells #[.int .i64 a0_0, .int .i64 a0_1, .int .i64 a0_2, .int .i64 a0_3] 42 (0, 0)) (bk BK103.out) hb); have n1_ := aM (bS (bl HB.out) hb); have n2_ := aM (hbox); have n3_ := aM ((by rw [hg]; exact (below_size (bl HB.out)) : w.heap.size ≤ gb104)); have n4_ := aM ((by rw [hg]; exact (below_size (bl HB.out)) : w.heap.size ≤ gb104)); have n5_ := aM ((by rw [hg]; exact Nat.ne_of_lt (blk_lt (g := gb103) (o := .cells #[.int .i64 a0_0, .int .i64 a0_1, .int .i64 a0_2, .int .i64 a0_3] 42 (0, 0)) (bk BK103.out)) : gb103 ≠ gb104)); have n6_ := aM ((by rw [hg]; exact Nat.ne_of_gt (blk_lt (g := gb103) (o := .cells #[.int .i64 a0_0, .int .i64 a0_1, .int .i64 a0_2, .int .i64 a0_3] 42 (0, 0)) (bk BK103.out)) : gb104 ≠ gb103)); clear BK103 HB; have BK103 := n0_; have HB := n1_; have BK104 := n2_; have GW104 := n3_; have GE104 := n4_; have NB103_104 := n5_; have NB104_103 := n6_; clear n0_ n1_ n2_ n3_ n4_ n5_ n6_; clear hb hbox hg; have hnb24 := NB103_104.out; have hnc24 := NB104_103.out; have hcz25_0 := cI BK103.out 0; have hcz25_1 := cI BK103.out 1; have hcz25_2 := cI BK103.out 2; have hcz25_3 := cI BK103.out 3; have hfz25_0 := bF BK103.out 0; have hfz25_1 := bF BK103.out 1; have hfz25_2 := bF BK103.out 2; have hfz25_3 := bF BK103.out 3; have hcz26_0 := cI BK104.out 0; have hcz26_1 := cI BK104.out 1; have hcz26_2 := cI BK104.out 2; have hcz26_3 := cI BK104.out 3; have hfz26_0 := bF BK104.out 0; have hfz26_1 := bF BK104.out 1; have hfz26_2 := bF BK104.out 2; have hfz26_3 := bF BK104.out 3))
  go_ret
  exact ⟨xW, bl HB.out⟩
 rw [if_pos c4] at H
 have c4b0 : (a0_1 == a1_1) = true := beq_iff_eq.mpr c4
 have c4b1 : (a0_1 != a1_1) = false := bne_eq_false_iff_eq.mpr c4
 clear c4
 by_cases c5 : a0_2 = a1_2
 case neg =>
  rw [if_neg c5] at H
  have c5b0 : (a0_2 == a1_2) = false := beq_eq_false_iff_ne.mpr c5
  have c5b1 : (a0_2 != a1_2) = true := bne_iff_ne.mpr c5
  obtain rfl := Option.some.inj H
  go_enter Try.func117, Try.ntmps117
  go_wp2_with (first | ((with_reducible refine gate_dst (N := 2) rfl ?_); refine box_event ?hg (N := 2) ?hd (cs := #[.int .i64 a0_0, .int .i64 a0_1, .int .i64 a0_2, .int .i64 a0_3]) (t := 42) ?hr ?_; (case hd => rfl); (case hg => rfl); (case hr => first | (go_simp; done) | (go_simp; rfl)); intro gb103 hg w17 hbox hb; have n0_ := aM (bS (bl HB.out) hb); have n1_ := aM (hbox); have n2_ := aM ((by rw [hg]; exact (below_size (bl HB.out)) : w.heap.size ≤ gb103)); have n3_ := aM ((by rw [hg]; exact (below_size (bl HB.out)) : w.heap.size ≤ gb103)); clear HB; have HB := n0_; have BK103 := n1_; have GW103 := n2_; have GE103 := n3_; clear n0_ n1_ n2_ n3_; clear hb hbox hg) | ((with_reducible refine gate_dst (N := 3) rfl ?_); refine box_event ?hg (N := 3) ?hd (cs := #[.int .i64 a1_0, .int .i64 a1_1, .int .i64 a1_2, .int .i64 a1_3]) (t := 42) ?hr ?_; (case hd => rfl); (case hg => rfl); (case hr => first | (go_simp; done) | (go_simp; rfl)); intro gb104 hg w18 hbox hb; have n0_ := aM (bB (g := gb103) (o := .cells #[.int .i64 a0_0, .int .i64 a0_1, .int .i64 a0_2, .int .i64 a0_3] 42 (0, 0)) (bk BK103.out) hb); have n1_ := aM (bS (bl HB.out) hb); have n2_ := aM (hbox); have n3_ := aM ((by rw [hg]; exact (below_size (bl HB.out)) : w.heap.size ≤ gb104)); have n4_ := aM ((by rw [hg]; exact (below_size (bl HB.out)) : w.heap.size ≤ gb104)); have n5_ := aM ((by rw [hg]; exact Nat.ne_of_lt (blk_lt (g := gb103) (o := .cells #[.int .i64 a0_0, .int .i64 a0_1, .int .i64 a0_2, .int .i64 a0_3] 42 (0, 0)) (bk BK103.out)) : gb103 ≠ gb104)); have n6_ := aM ((by rw [hg]; exact Nat.ne_of_gt (blk_lt (g := gb103) (o := .cells #[.int .i64 a0_0, .int .i64 a0_1, .int .i64 a0_2, .int .i64 a0_3] 42 (0, 0)) (bk BK103.out)) : gb104 ≠ gb103)); clear BK103 HB; have BK103 := n0_; have HB := n1_; have BK104 := n2_; have GW104 := n3_; have GE104 := n4_; have NB103_104 := n5_; have NB104_103 := n6_; clear n0_ n1_ n2_ n3_ n4_ n5_ n6_; clear hb hbox hg; have hnb19 := NB103_104.out; have hnc19 := NB104_103.out; have hcz20_0 := cI BK103.out 0; have hcz20_1 := cI BK103.out 1; have hcz20_2 := cI BK103.out 2; have hcz20_3 := cI BK103.out 3; have hfz20_0 := bF BK103.out 0; have hfz20_1 := bF BK103.out 1; have hfz20_2 := bF BK103.out 2; have hfz20_3 := bF BK103.out 3; have hcz21_0 := cI BK104.out 0; have hcz21_1 := cI BK104.out 1; have hcz21_2 := cI BK104.out 2; have hcz21_3 := cI BK104.out 3; have hfz21_0 := bF BK104.out 0; have hfz21_1 := bF BK104.out 1; have hfz21_2 := bF BK104.out 2; have hfz21_3 := bF BK104.out 3))
  go_ret
  exact ⟨xW, bl HB.out⟩
 rw [if_pos c5] at H
 have c5b0 : (a0_2 == a1_2) = true := beq_iff_eq.mpr c5
 have c5b1 : (a0_2 != a1_2) = false := bne_eq_false_iff_eq.mpr c5
 clear c5
 by_cases c6 : a0_3 = a1_3
 case neg =>
  rw [if_neg c6] at H
  have c6b0 : (a0_3 == a1_3) = false := beq_eq_false_iff_ne.mpr c6
  have c6b1 : (a0_3 != a1_3) = true := bne_iff_ne.mpr c6
  obtain rfl := Option.some.inj H
  go_enter Try.func117, Try.ntmps117
  go_wp2_with (first | ((with_reducible refine gate_dst (N := 2) rfl ?_); refine box_event ?hg (N := 2) ?hd (cs := #[.int .i64 a0_0, .int .i64 a0_1, .int .i64 a0_2, .int .i64 a0_3]) (t := 42) ?hr ?_; (case hd => rfl); (case hg => rfl); (case hr => first | (go_simp; done) | (go_simp; rfl)); intro gb103 hg w12 hbox hb; have n0_ := aM (bS (bl HB.out) hb); have n1_ := aM (hbox); have n2_ := aM ((by rw [hg]; exact (below_size (bl HB.out)) : w.heap.size ≤ gb103)); have n3_ := aM ((by rw [hg]; exact (below_size (bl HB.out)) : w.heap.size ≤ gb103)); clear HB; have HB := n0_; have BK103 := n1_; have GW103 := n2_; have GE103 := n3_; clear n0_ n1_ n2_ n3_; clear hb hbox hg) | ((with_reducible refine gate_dst (N := 3) rfl ?_); refine box_event ?hg (N := 3) ?hd (cs := #[.int .i64 a1_0, .int .i64 a1_1, .int .i64 a1_2, .int .i64 a1_3]) (t := 42) ?hr ?_; (case hd => rfl); (case hg => rfl); (case hr => first | (go_simp; done) | (go_simp; rfl)); intro gb104 hg w13 hbox hb; have n0_ := aM (bB (g := gb103) (o := .cells #[.int .i64 a0_0, .int .i64 a0_1, .int .i64 a0_2, .int .i64 a0_3] 42 (0, 0)) (bk BK103.out) hb); have n1_ := aM (bS (bl HB.out) hb); have n2_ := aM (hbox); have n3_ := aM ((by rw [hg]; exact (below_size (bl HB.out)) : w.heap.size ≤ gb104)); have n4_ := aM ((by rw [hg]; exact (below_size (bl HB.out)) : w.heap.size ≤ gb104)); have n5_ := aM ((by rw [hg]; exact Nat.ne_of_lt (blk_lt (g := gb103) (o := .cells #[.int .i64 a0_0, .int .i64 a0_1, .int .i64 a0_2, .int .i64 a0_3] 42 (0, 0)) (bk BK103.out)) : gb103 ≠ gb104)); have n6_ := aM ((by rw [hg]; exact Nat.ne_of_gt (blk_lt (g := gb103) (o := .cells #[.int .i64 a0_0, .int .i64 a0_1, .int .i64 a0_2, .int .i64 a0_3] 42 (0, 0)) (bk BK103.out)) : gb104 ≠ gb103)); clear BK103 HB; have BK103 := n0_; have HB := n1_; have BK104 := n2_; have GW104 := n3_; have GE104 := n4_; have NB103_104 := n5_; have NB104_103 := n6_; clear n0_ n1_ n2_ n3_ n4_ n5_ n6_; clear hb hbox hg; have hnb14 := NB103_104.out; have hnc14 := NB104_103.out; have hcz15_0 := cI BK103.out 0; have hcz15_1 := cI BK103.out 1; have hcz15_2 := cI BK103.out 2; have hcz15_3 := cI BK103.out 3; have hfz15_0 := bF BK103.out 0; have hfz15_1 := bF BK103.out 1; have hfz15_2 := bF BK103.out 2; have hfz15_3 := bF BK103.out 3; have hcz16_0 := cI BK104.out 0; have hcz16_1 := cI BK104.out 1; have hcz16_2 := cI BK104.out 2; have hcz16_3 := cI BK104.out 3; have hfz16_0 := bF BK104.out 0; have hfz16_1 := bF BK104.out 1; have hfz16_2 := bF BK104.out 2; have hfz16_3 := bF BK104.out 3))
  go_ret
  exact ⟨xW, bl HB.out⟩
 rw [if_pos c6] at H
 have c6b0 : (a0_3 == a1_3) = true := beq_iff_eq.mpr c6
 have c6b1 : (a0_3 != a1_3) = false := bne_eq_false_iff_eq.mpr c6
 clear c6
 obtain rfl := Option.some.inj H
 go_enter Try.func117, Try.ntmps117
 go_wp2_with (first | ((with_reducible refine gate_dst (N := 2) rfl ?_); refine box_event ?hg (N := 2) ?hd (cs := #[.int .i64 a0_0, .int .i64 a0_1, .int .i64 a0_2, .int .i64 a0_3]) (t := 42) ?hr ?_; (case hd => rfl); (case hg => rfl); (case hr => first | (go_simp; done) | (go_simp; rfl)); intro gb103 hg w7 hbox hb; have n0_ := aM (bS (bl HB.out) hb); have n1_ := aM (hbox); have n2_ := aM ((by rw [hg]; exact (below_size (bl HB.out)) : w.heap.size ≤ gb103)); have n3_ := aM ((by rw [hg]; exact (below_size (bl HB.out)) : w.heap.size ≤ gb103)); clear HB; have HB := n0_; have BK103 := n1_; have GW103 := n2_; have GE103 := n3_; clear n0_ n1_ n2_ n3_; clear hb hbox hg) | ((with_reducible refine gate_dst (N := 3) rfl ?_); refine box_event ?hg (N := 3) ?hd (cs := #[.int .i64 a1_0, .int .i64 a1_1, .int .i64 a1_2, .int .i64 a1_3]) (t := 42) ?hr ?_; (case hd => rfl); (case hg => rfl); (case hr => first | (go_simp; done) | (go_simp; rfl)); intro gb104 hg w8 hbox hb; have n0_ := aM (bB (g := gb103) (o := .cells #[.int .i64 a0_0, .int .i64 a0_1, .int .i64 a0_2, .int .i64 a0_3] 42 (0, 0)) (bk BK103.out) hb); have n1_ := aM (bS (bl HB.out) hb); have n2_ := aM (hbox); have n3_ := aM ((by rw [hg]; exact (below_size (bl HB.out)) : w.heap.size ≤ gb104)); have n4_ := aM ((by rw [hg]; exact (below_size (bl HB.out)) : w.heap.size ≤ gb104)); have n5_ := aM ((by rw [hg]; exact Nat.ne_of_lt (blk_lt (g := gb103) (o := .cells #[.int .i64 a0_0, .int .i64 a0_1, .int .i64 a0_2, .int .i64 a0_3] 42 (0, 0)) (bk BK103.out)) : gb103 ≠ gb104)); have n6_ := aM ((by rw [hg]; exact Nat.ne_of_gt (blk_lt (g := gb103) (o := .cells #[.int .i64 a0_0, .int .i64 a0_1, .int .i64 a0_2, .int .i64 a0_3] 42 (0, 0)) (bk BK103.out)) : gb104 ≠ gb103)); clear BK103 HB; have BK103 := n0_; have HB := n1_; have BK104 := n2_; have GW104 := n3_; have GE104 := n4_; have NB103_104 := n5_; have NB104_103 := n6_; clear n0_ n1_ n2_ n3_ n4_ n5_ n6_; clear hb hbox hg; have hnb9 := NB103_104.out; have hnc9 := NB104_103.out; have hcz10_0 := cI BK103.out 0; have hcz10_1 := cI BK103.out 1; have hcz10_2 := cI BK103.out 2; have hcz10_3 := cI BK103.out 3; have hfz10_0 := bF BK103.out 0; have hfz10_1 := bF BK103.out 1; have hfz10_2 := bF BK103.out 2; have hfz10_3 := bF BK103.out 3; have hcz11_0 := cI BK104.out 0; have hcz11_1 := cI BK104.out 1; have hcz11_2 := cI BK104.out 2; have hcz11_3 := cI BK104.out 3; have hfz11_0 := bF BK104.out 0; have hfz11_1 := bF BK104.out 1; have hfz11_2 := bF BK104.out 2; have hfz11_3 := bF BK104.out 3))
 go_ret
 exact ⟨xW, bl HB.out⟩

def laws_eqIn.f (a0_0 : Int) (a0_1 : Int) (a0_2 : Int) (a0_3 : Int) (a0_4 : Int) (a0_5 : Int) (a0_6 : Int) (a0_7 : Bool) (a1_0 : Int) (a1_1 : Int) (a1_2 : Int) (a1_3 : Int) (a1_4 : Int) (a1_5 : Int) (a1_6 : Int) (a1_7 : Bool) : Option (Bool) := if a0_0 = a1_0 then (if a0_1 = a1_1 then ((laws_eqVec.f a0_2 a0_3 a0_4 a0_5 a1_2 a1_3 a1_4 a1_5).bind fun t107 => (if t107 = true then (if a0_6 = a1_6 then (if (a0_7 != a1_7) = true then (some false) else (some true)) else (some false)) else (some false))) else (some false)) else (some false)
set_option maxHeartbeats 60000000 in
set_option maxRecDepth 100000 in
theorem laws_eqIn.calls (a0_0 : Int) (a0_1 : Int) (a0_2 : Int) (a0_3 : Int) (a0_4 : Int) (a0_5 : Int) (a0_6 : Int) (a0_7 : Bool) (a1_0 : Int) (a1_1 : Int) (a1_2 : Int) (a1_3 : Int) (a1_4 : Int) (a1_5 : Int) (a1_6 : Int) (a1_7 : Bool) (r : Bool) (w : World) (h : laws_eqIn.f a0_0 a0_1 a0_2 a0_3 a0_4 a0_5 a0_6 a0_7 a1_0 a1_1 a1_2 a1_3 a1_4 a1_5 a1_6 a1_7 = some r) :
  Calls Try.prog 61 #[.agg #[.int .i64 a0_0, .int .i64 a0_1, .int .i64 a0_2, .int .i64 a0_3, .int .i64 a0_4, .int .i64 a0_5, .int .i64 a0_6, .bool a0_7], .agg #[.int .i64 a1_0, .int .i64 a1_1, .int .i64 a1_2, .int .i64 a1_3, .int .i64 a1_4, .int .i64 a1_5, .int .i64 a1_6, .bool a1_7]] w fun e w' => e = .returned (.bool r) ∧ Below w.heap.size w w' := by
 have hu82 := Try.underlying82
 have hu42 := Try.underlying42
 have HB := aM (Below.refl w.heap.size w)
 have H : (if a0_0 = a1_0 then (if a0_1 = a1_1 then ((laws_eqVec.f a0_2 a0_3 a0_4 a0_5 a1_2 a1_3 a1_4 a1_5).bind fun t107 => (if t107 = true then (if a0_6 = a1_6 then (if (a0_7 != a1_7) = true then (some false) else (some true)) else (some false)) else (some false))) else (some false)) else (some false)) = some r := h
 clear h
 by_cases c3 : a0_0 = a1_0
 case neg =>
  rw [if_neg c3] at H
  have c3b0 : (a0_0 == a1_0) = false := beq_eq_false_iff_ne.mpr c3
  have c3b1 : (a0_0 != a1_0) = true := bne_iff_ne.mpr c3
  obtain rfl := Option.some.inj H
  go_enter Try.func61, Try.ntmps61
  go_wp2_with (first | ((with_reducible refine gate_dst (N := 2) rfl ?_); refine box_event ?hg (N := 2) ?hd (cs := #[.int .i64 a0_0, .int .i64 a0_1, .int .i64 a0_2, .int .i64 a0_3, .int .i64 a0_4, .int .i64 a0_5, .int .i64 a0_6, .bool a0_7]) (t := 82) ?hr ?_; (case hd => rfl); (case hg => rfl); (case hr => first | (go_simp; done) | (go_simp; rfl)); intro gb105 hg w44 hbox hb; have n0_ := aM (bS (bl HB.out) hb); have n1_ := aM (hbox); have n2_ := aM ((by rw [hg]; exact (below_size (bl HB.out)) : w.heap.size ≤ gb105)); have n3_ := aM ((by rw [hg]; exact (below_size (bl HB.out)) : w.heap.size ≤ gb105)); clear HB; have HB := n0_; have BK105 := n1_; have GW105 := n2_; have GE105 := n3_; clear n0_ n1_ n2_ n3_; clear hb hbox hg) | ((with_reducible refine gate_dst (N := 3) rfl ?_); refine box_event ?hg (N := 3) ?hd (cs := #[.int .i64 a1_0, .int .i64 a1_1, .int .i64 a1_2, .int .i64 a1_3, .int .i64 a1_4, .int .i64 a1_5, .int .i64 a1_6, .bool a1_7]) (t := 82) ?hr ?_; (case hd => rfl); (case hg => rfl); (case hr => first | (go_simp; done) | (go_simp; rfl)); intro gb106 hg w45 hbox hb; have n0_ := aM (bB (g := gb105) (o := .cells #[.int .i64 a0_0, .int .i64 a0_1, .int .i64 a0_2, .int .i64 a0_3, .int .i64 a0_4, .int .i64 a0_5, .int .i64 a0_6, .bool a0_7] 82 (0, 0)) (bk BK105.out) hb); have n1_ := aM (bS (bl HB.out) hb); have n2_ := aM (hbox); have n3_ := aM ((by rw [hg]; exact (below_size (bl HB.out)) : w.heap.size ≤ gb106)); have n4_ := aM ((by rw [hg]; exact (below_size (bl HB.out)) : w.heap.size ≤ gb106)); have n5_ := aM ((by rw [hg]; exact Nat.ne_of_lt (blk_lt (g := gb105) (o := .cells #[.int .i64 a0_0, .int .i64 a0_1, .int .i64 a0_2, .int .i64 a0_3, .int .i64 a0_4, .int .i64 a0_5, .int .i64 a0_6, .bool a0_7] 82 (0, 0)) (bk BK105.out)) : gb105 ≠ gb106)); have n6_ := aM ((by rw [hg]; exact Nat.ne_of_gt (blk_lt (g := gb105) (o := .cells #[.int .i64 a0_0, .int .i64 a0_1, .int .i64 a0_2, .int .i64 a0_3, .int .i64 a0_4, .int .i64 a0_5, .int .i64 a0_6, .bool a0_7] 82 (0, 0)) (bk BK105.out)) : gb106 ≠ gb105)); clear BK105 HB; have BK105 := n0_; have HB := n1_; have BK106 := n2_; have GW106 := n3_; have GE106 := n4_; have NB105_106 := n5_; have NB106_105 := n6_; clear n0_ n1_ n2_ n3_ n4_ n5_ n6_; clear hb hbox hg; have hnb46 := NB105_106.out; have hnc46 := NB106_105.out; have hcz47_0 := cI BK105.out 0; have hcz47_1 := cI BK105.out 1; have hcz47_2 := cI BK105.out 2; have hcz47_3 := cI BK105.out 3; have hcz47_4 := cI BK105.out 4; have hcz47_5 := cI BK105.out 5; have hcz47_6 := cI BK105.out 6; have hcz47_7 := cI BK105.out 7; have hfz47_0 := bF BK105.out 0; have hfz47_1 := bF BK105.out 1; have hfz47_2 := bF BK105.out 2; have hfz47_3 := bF BK105.out 3; have hfz47_4 := bF BK105.out 4; have hfz47_5 := bF BK105.out 5; have hfz47_6 := bF BK105.out 6; have hfz47_7 := bF BK105.out 7; have hcz48_0 := cI BK106.out 0; have hcz48_1 := cI BK106.out 1; have hcz48_2 := cI BK106.out 2; have hcz48_3 := cI BK106.out 3; have hcz48_4 := cI BK106.out 4; have hcz48_5 := cI BK106.out 5; have hcz48_6 := cI BK106.out 6; have hcz48_7 := cI BK106.out 7; have hfz48_0 := bF BK106.out 0; have hfz48_1 := bF BK106.out 1; have hfz48_2 := bF BK106.out 2; have hfz48_3 := bF BK106.out 3; have hfz48_4 := bF BK106.out 4; have hfz48_5 := bF BK106.out 5; have hfz48_6 := bF BK106.out 6; have hfz48_7 := bF BK106.out 7))
  go_ret
  exact ⟨xW, bl HB.out⟩
 rw [if_pos c3] at H
 have c3b0 : (a0_0 == a1_0) = true := beq_iff_eq.mpr c3
 have c3b1 : (a0_0 != a1_0) = false := bne_eq_false_iff_eq.mpr c3
 clear c3
 by_cases c4 : a0_1 = a1_1
 case neg =>
  rw [if_neg c4] at H
  have c4b0 : (a0_1 == a1_1) = false := beq_eq_false_iff_ne.mpr c4
  have c4b1 : (a0_1 != a1_1) = true := bne_iff_ne.mpr c4
  obtain rfl := Option.some.inj H
  go_enter Try.func61, Try.ntmps61
  go_wp2_with (first | ((with_reducible refine gate_dst (N := 2) rfl ?_); refine box_event ?hg (N := 2) ?hd (cs := #[.int .i64 a0_0, .int .i64 a0_1, .int .i64 a0_2, .int .i64 a0_3, .int .i64 a0_4, .int .i64 a0_5, .int .i64 a0_6, .bool a0_7]) (t := 82) ?hr ?_; (case hd => rfl); (case hg => rfl); (case hr => first | (go_simp; done) | (go_simp; rfl)); intro gb105 hg w39 hbox hb; have n0_ := aM (bS (bl HB.out) hb); have n1_ := aM (hbox); have n2_ := aM ((by rw [hg]; exact (below_size (bl HB.out)) : w.heap.size ≤ gb105)); have n3_ := aM ((by rw [hg]; exact (below_size (bl HB.out)) : w.heap.size ≤ gb105)); clear HB; have HB := n0_; have BK105 := n1_; have GW105 := n2_; have GE105 := n3_; clear n0_ n1_ n2_ n3_; clear hb hbox hg) | ((with_reducible refine gate_dst (N := 3) rfl ?_); refine box_event ?hg (N := 3) ?hd (cs := #[.int .i64 a1_0, .int .i64 a1_1, .int .i64 a1_2, .int .i64 a1_3, .int .i64 a1_4, .int .i64 a1_5, .int .i64 a1_6, .bool a1_7]) (t := 82) ?hr ?_; (case hd => rfl); (case hg => rfl); (case hr => first | (go_simp; done) | (go_simp; rfl)); intro gb106 hg w40 hbox hb; have n0_ := aM (bB (g := gb105) (o := .cells #[.int .i64 a0_0, .int .i64 a0_1, .int .i64 a0_2, .int .i64 a0_3, .int .i64 a0_4, .int .i64 a0_5, .int .i64 a0_6, .bool a0_7] 82 (0, 0)) (bk BK105.out) hb); have n1_ := aM (bS (bl HB.out) hb); have n2_ := aM (hbox); have n3_ := aM ((by rw [hg]; exact (below_size (bl HB.out)) : w.heap.size ≤ gb106)); have n4_ := aM ((by rw [hg]; exact (below_size (bl HB.out)) : w.heap.size ≤ gb106)); have n5_ := aM ((by rw [hg]; exact Nat.ne_of_lt (blk_lt (g := gb105) (o := .cells #[.int .i64 a0_0, .int .i64 a0_1, .int .i64 a0_2, .int .i64 a0_3, .int .i64 a0_4, .int .i64 a0_5, .int .i64 a0_6, .bool a0_7] 82 (0, 0)) (bk BK105.out)) : gb105 ≠ gb106)); have n6_ := aM ((by rw [hg]; exact Nat.ne_of_gt (blk_lt (g := gb105) (o := .cells #[.int .i64 a0_0, .int .i64 a0_1, .int .i64 a0_2, .int .i64 a0_3, .int .i64 a0_4, .int .i64 a0_5, .int .i64 a0_6, .bool a0_7] 82 (0, 0)) (bk BK105.out)) : gb106 ≠ gb105)); clear BK105 HB; have BK105 := n0_; have HB := n1_; have BK106 := n2_; have GW106 := n3_; have GE106 := n4_; have NB105_106 := n5_; have NB106_105 := n6_; clear n0_ n1_ n2_ n3_ n4_ n5_ n6_; clear hb hbox hg; have hnb41 := NB105_106.out; have hnc41 := NB106_105.out; have hcz42_0 := cI BK105.out 0; have hcz42_1 := cI BK105.out 1; have hcz42_2 := cI BK105.out 2; have hcz42_3 := cI BK105.out 3; have hcz42_4 := cI BK105.out 4; have hcz42_5 := cI BK105.out 5; have hcz42_6 := cI BK105.out 6; have hcz42_7 := cI BK105.out 7; have hfz42_0 := bF BK105.out 0; have hfz42_1 := bF BK105.out 1; have hfz42_2 := bF BK105.out 2; have hfz42_3 := bF BK105.out 3; have hfz42_4 := bF BK105.out 4; have hfz42_5 := bF BK105.out 5; have hfz42_6 := bF BK105.out 6; have hfz42_7 := bF BK105.out 7; have hcz43_0 := cI BK106.out 0; have hcz43_1 := cI BK106.out 1; have hcz43_2 := cI BK106.out 2; have hcz43_3 := cI BK106.out 3; have hcz43_4 := cI BK106.out 4; have hcz43_5 := cI BK106.out 5; have hcz43_6 := cI BK106.out 6; have hcz43_7 := cI BK106.out 7; have hfz43_0 := bF BK106.out 0; have hfz43_1 := bF BK106.out 1; have hfz43_2 := bF BK106.out 2; have hfz43_3 := bF BK106.out 3; have hfz43_4 := bF BK106.out 4; have hfz43_5 := bF BK106.out 5; have hfz43_6 := bF BK106.out 6; have hfz43_7 := bF BK106.out 7))
  go_ret
  exact ⟨xW, bl HB.out⟩
 rw [if_pos c4] at H
 have c4b0 : (a0_1 == a1_1) = true := beq_iff_eq.mpr c4
 have c4b1 : (a0_1 != a1_1) = false := bne_eq_false_iff_eq.mpr c4
 clear c4
 replace H := Option.bind_eq_some_iff.mp H
 obtain ⟨t107, A50, H⟩ := H
 replace H : (if t107 = true then (if a0_6 = a1_6 then (if (a0_7 != a1_7) = true then (some false) else (some true)) else (some false)) else (some false)) = some r := H
 have A5 := aM A50
 clear A50
 by_cases c6 : t107 = true
 case neg =>
  replace c6 := Bool.eq_false_iff.mpr c6
  subst c6
  have H1 : (some false) = some r := by rw [if_neg (show ¬ (false = true) by decide)] at H; exact H
  clear H
  have H := H1
  clear H1
  obtain rfl := Option.some.inj H
  go_enter Try.func61, Try.ntmps61
  go_wp2_with (first | ((with_reducible refine gate_dst (N := 2) rfl ?_); refine box_event ?hg (N := 2) ?hd (cs := #[.int .i64 a0_0, .int .i64 a0_1, .int .i64 a0_2, .int .i64 a0_3, .int .i64 a0_4, .int .i64 a0_5, .int .i64 a0_6, .bool a0_7]) (t := 82) ?hr ?_; (case hd => rfl); (case hg => rfl); (case hr => first | (go_simp; done) | (go_simp; rfl)); intro gb105 hg w33 hbox hb; have n0_ := aM (bS (bl HB.out) hb); have n1_ := aM (hbox); have n2_ := aM ((by rw [hg]; exact (below_size (bl HB.out)) : w.heap.size ≤ gb105)); have n3_ := aM ((by rw [hg]; exact (below_size (bl HB.out)) : w.heap.size ≤ gb105)); clear HB; have HB := n0_; have BK105 := n1_; have GW105 := n2_; have GE105 := n3_; clear n0_ n1_ n2_ n3_; clear hb hbox hg) | ((with_reducible refine gate_dst (N := 3) rfl ?_); refine box_event ?hg (N := 3) ?hd (cs := #[.int .i64 a1_0, .int .i64 a1_1, .int .i64 a1_2, .int .i64 a1_3, .int .i64 a1_4, .int .i64 a1_5, .int .i64 a1_6, .bool a1_7]) (t := 82) ?hr ?_; (case hd => rfl); (case hg => rfl); (case hr => first | (go_simp; done) | (go_simp; rfl)); intro gb106 hg w34 hbox hb; have n0_ := aM (bB (g := gb105) (o := .cells #[.int .i64 a0_0, .int .i64 a0_1, .int .i64 a0_2, .int .i64 a0_3, .int .i64 a0_4, .int .i64 a0_5, .int .i64 a0_6, .bool a0_7] 82 (0, 0)) (bk BK105.out) hb); have n1_ := aM (bS (bl HB.out) hb); have n2_ := aM (hbox); have n3_ := aM ((by rw [hg]; exact (below_size (bl HB.out)) : w.heap.size ≤ gb106)); have n4_ := aM ((by rw [hg]; exact (below_size (bl HB.out)) : w.heap.size ≤ gb106)); have n5_ := aM ((by rw [hg]; exact Nat.ne_of_lt (blk_lt (g := gb105) (o := .cells #[.int .i64 a0_0, .int .i64 a0_1, .int .i64 a0_2, .int .i64 a0_3, .int .i64 a0_4, .int .i64 a0_5, .int .i64 a0_6, .bool a0_7] 82 (0, 0)) (bk BK105.out)) : gb105 ≠ gb106)); have n6_ := aM ((by rw [hg]; exact Nat.ne_of_gt (blk_lt (g := gb105) (o := .cells #[.int .i64 a0_0, .int .i64 a0_1, .int .i64 a0_2, .int .i64 a0_3, .int .i64 a0_4, .int .i64 a0_5, .int .i64 a0_6, .bool a0_7] 82 (0, 0)) (bk BK105.out)) : gb106 ≠ gb105)); clear BK105 HB; have BK105 := n0_; have HB := n1_; have BK106 := n2_; have GW106 := n3_; have GE106 := n4_; have NB105_106 := n5_; have NB106_105 := n6_; clear n0_ n1_ n2_ n3_ n4_ n5_ n6_; clear hb hbox hg; have hnb35 := NB105_106.out; have hnc35 := NB106_105.out; have hcz36_0 := cI BK105.out 0; have hcz36_1 := cI BK105.out 1; have hcz36_2 := cI BK105.out 2; have hcz36_3 := cI BK105.out 3; have hcz36_4 := cI BK105.out 4; have hcz36_5 := cI BK105.out 5; have hcz36_6 := cI BK105.out 6; have hcz36_7 := cI BK105.out 7; have hfz36_0 := bF BK105.out 0; have hfz36_1 := bF BK105.out 1; have hfz36_2 := bF BK105.out 2; have hfz36_3 := bF BK105.out 3; have hfz36_4 := bF BK105.out 4; have hfz36_5 := bF BK105.out 5; have hfz36_6 := bF BK105.out 6; have hfz36_7 := bF BK105.out 7; have hcz37_0 := cI BK106.out 0; have hcz37_1 := cI BK106.out 1; have hcz37_2 := cI BK106.out 2; have hcz37_3 := cI BK106.out 3; have hcz37_4 := cI BK106.out 4; have hcz37_5 := cI BK106.out 5; have hcz37_6 := cI BK106.out 6; have hcz37_7 := cI BK106.out 7; have hfz37_0 := bF BK106.out 0; have hfz37_1 := bF BK106.out 1; have hfz37_2 := bF BK106.out 2; have hfz37_3 := bF BK106.out 3; have hfz37_4 := bF BK106.out 4; have hfz37_5 := bF BK106.out 5; have hfz37_6 := bF BK106.out 6; have hfz37_7 := bF BK106.out 7) | ((with_reducible refine gate_callee (f := 117) rfl ?_); refine goesL_ (some 19) rfl rfl Try.func117 (by kernel_rfl) rfl #[.agg #[.int .i64 a0_2, .int .i64 a0_3, .int .i64 a0_4, .int .i64 a0_5], .agg #[.int .i64 a1_2, .int .i64 a1_3, .int .i64 a1_4, .int .i64 a1_5]] rfl xR ?_; (with_reducible refine (laws_eqVec.calls a0_2 a0_3 a0_4 a0_5 a1_2 a1_3 a1_4 a1_5 false _ A5.out).mono ?_); rintro e w38 ⟨rfl, hb⟩; refine ⟨_, rfl, ?_⟩; have n0_ := aM (bB (g := gb105) (o := .cells #[.int .i64 a0_0, .int .i64 a0_1, .int .i64 a0_2, .int .i64 a0_3, .int .i64 a0_4, .int .i64 a0_5, .int .i64 a0_6, .bool a0_7] 82 (0, 0)) (bk BK105.out) hb); have n1_ := aM (bB (g := gb106) (o := .cells #[.int .i64 a1_0, .int .i64 a1_1, .int .i64 a1_2, .int .i64 a1_3, .int .i64 a1_4, .int .i64 a1_5, .int .i64 a1_6, .bool a1_7] 82 (0, 0)) (bk BK106.out) hb); have n2_ := aM (bS (bl HB.out) hb); clear BK105 BK106 HB; have BK105 := n0_; have BK106 := n1_; have HB := n2_; clear n0_ n1_ n2_; (try clear hb)))
  go_ret
  exact ⟨xW, bl HB.out⟩
 subst c6
 have H1 : (if a0_6 = a1_6 then (if (a0_7 != a1_7) = true then (some false) else (some true)) else (some false)) = some r := by rw [if_pos rfl] at H; exact H
 clear H
 have H := H1
 clear H1
 by_cases c7 : a0_6 = a1_6
 case neg =>
  rw [if_neg c7] at H
  have c7b0 : (a0_6 == a1_6) = false := beq_eq_false_iff_ne.mpr c7
  have c7b1 : (a0_6 != a1_6) = true := bne_iff_ne.mpr c7
  obtain rfl := Option.some.inj H
  go_enter Try.func61, Try.ntmps61
  go_wp2_with (first | ((with_reducible refine gate_dst (N := 2) rfl ?_); refine box_event ?hg (N := 2) ?hd (cs := #[.int .i64 a0_0, .int .i64 a0_1, .int .i64 a0_2, .int .i64 a0_3, .int .i64 a0_4, .int .i64 a0_5, .int .i64 a0_6, .bool a0_7]) (t := 82) ?hr ?_; (case hd => rfl); (case hg => rfl); (case hr => first | (go_simp; done) | (go_simp; rfl)); intro gb105 hg w25 hbox hb; have n0_ := aM (bS (bl HB.out) hb); have n1_ := aM (hbox); have n2_ := aM ((by rw [hg]; exact (below_size (bl HB.out)) : w.heap.size ≤ gb105)); have n3_ := aM ((by rw [hg]; exact (below_size (bl HB.out)) : w.heap.size ≤ gb105)); clear HB; have HB := n0_; have BK105 := n1_; have GW105 := n2_; have GE105 := n3_; clear n0_ n1_ n2_ n3_; clear hb hbox hg) | ((with_reducible refine gate_dst (N := 3) rfl ?_); refine box_event ?hg (N := 3) ?hd (cs := #[.int .i64 a1_0, .int .i64 a1_1, .int .i64 a1_2, .int .i64 a1_3, .int .i64 a1_4, .int .i64 a1_5, .int .i64 a1_6, .bool a1_7]) (t := 82) ?hr ?_; (case hd => rfl); (case hg => rfl); (case hr => first | (go_simp; done) | (go_simp; rfl)); intro gb106 hg w26 hbox hb; have n0_ := aM (bB (g := gb105) (o := .cells #[.int .i64 a0_0, .int .i64 a0_1, .int .i64 a0_2, .int .i64 a0_3, .int .i64 a0_4, .int .i64 a0_5, .int .i64 a0_6, .bool a0_7] 82 (0, 0)) (bk BK105.out) hb); have n1_ := aM (bS (bl HB.out) hb); have n2_ := aM (hbox); have n3_ := aM ((by rw [hg]; exact (below_size (bl HB.out)) : w.heap.size ≤ gb106)); have n4_ := aM ((by rw [hg]; exact (below_size (bl HB.out)) : w.heap.size ≤ gb106)); have n5_ := aM ((by rw [hg]; exact Nat.ne_of_lt (blk_lt (g := gb105) (o := .cells #[.int .i64 a0_0, .int .i64 a0_1, .int .i64 a0_2, .int .i64 a0_3, .int .i64 a0_4, .int .i64 a0_5, .int .i64 a0_6, .bool a0_7] 82 (0, 0)) (bk BK105.out)) : gb105 ≠ gb106)); have n6_ := aM ((by rw [hg]; exact Nat.ne_of_gt (blk_lt (g := gb105) (o := .cells #[.int .i64 a0_0, .int .i64 a0_1, .int .i64 a0_2, .int .i64 a0_3, .int .i64 a0_4, .int .i64 a0_5, .int .i64 a0_6, .bool a0_7] 82 (0, 0)) (bk BK105.out)) : gb106 ≠ gb105)); clear BK105 HB; have BK105 := n0_; have HB := n1_; have BK106 := n2_; have GW106 := n3_; have GE106 := n4_; have NB105_106 := n5_; have NB106_105 := n6_; clear n0_ n1_ n2_ n3_ n4_ n5_ n6_; clear hb hbox hg; have hnb27 := NB105_106.out; have hnc27 := NB106_105.out; have hcz28_0 := cI BK105.out 0; have hcz28_1 := cI BK105.out 1; have hcz28_2 := cI BK105.out 2; have hcz28_3 := cI BK105.out 3; have hcz28_4 := cI BK105.out 4; have hcz28_5 := cI BK105.out 5; have hcz28_6 := cI BK105.out 6; have hcz28_7 := cI BK105.out 7; have hfz28_0 := bF BK105.out 0; have hfz28_1 := bF BK105.out 1; have hfz28_2 := bF BK105.out 2; have hfz28_3 := bF BK105.out 3; have hfz28_4 := bF BK105.out 4; have hfz28_5 := bF BK105.out 5; have hfz28_6 := bF BK105.out 6; have hfz28_7 := bF BK105.out 7; have hcz29_0 := cI BK106.out 0; have hcz29_1 := cI BK106.out 1; have hcz29_2 := cI BK106.out 2; have hcz29_3 := cI BK106.out 3; have hcz29_4 := cI BK106.out 4; have hcz29_5 := cI BK106.out 5; have hcz29_6 := cI BK106.out 6; have hcz29_7 := cI BK106.out 7; have hfz29_0 := bF BK106.out 0; have hfz29_1 := bF BK106.out 1; have hfz29_2 := bF BK106.out 2; have hfz29_3 := bF BK106.out 3; have hfz29_4 := bF BK106.out 4; have hfz29_5 := bF BK106.out 5; have hfz29_6 := bF BK106.out 6; have hfz29_7 := bF BK106.out 7) | ((with_reducible refine gate_callee (f := 117) rfl ?_); refine goesL_ (some 19) rfl rfl Try.func117 (by kernel_rfl) rfl #[.agg #[.int .i64 a0_2, .int .i64 a0_3, .int .i64 a0_4, .int .i64 a0_5], .agg #[.int .i64 a1_2, .int .i64 a1_3, .int .i64 a1_4, .int .i64 a1_5]] rfl xR ?_; (with_reducible refine (laws_eqVec.calls a0_2 a0_3 a0_4 a0_5 a1_2 a1_3 a1_4 a1_5 true _ A5.out).mono ?_); rintro e w30 ⟨rfl, hb⟩; refine ⟨_, rfl, ?_⟩; have n0_ := aM (bB (g := gb105) (o := .cells #[.int .i64 a0_0, .int .i64 a0_1, .int .i64 a0_2, .int .i64 a0_3, .int .i64 a0_4, .int .i64 a0_5, .int .i64 a0_6, .bool a0_7] 82 (0, 0)) (bk BK105.out) hb); have n1_ := aM (bB (g := gb106) (o := .cells #[.int .i64 a1_0, .int .i64 a1_1, .int .i64 a1_2, .int .i64 a1_3, .int .i64 a1_4, .int .i64 a1_5, .int .i64 a1_6, .bool a1_7] 82 (0, 0)) (bk BK106.out) hb); have n2_ := aM (bS (bl HB.out) hb); clear BK105 BK106 HB; have BK105 := n0_; have BK106 := n1_; have HB := n2_; clear n0_ n1_ n2_; (try clear hb); have hcz31_0 := cI BK105.out 0; have hcz31_1 := cI BK105.out 1; have hcz31_2 := cI BK105.out 2; have hcz31_3 := cI BK105.out 3; have hcz31_4 := cI BK105.out 4; have hcz31_5 := cI BK105.out 5; have hcz31_6 := cI BK105.out 6; have hcz31_7 := cI BK105.out 7; have hfz31_0 := bF BK105.out 0; have hfz31_1 := bF BK105.out 1; have hfz31_2 := bF BK105.out 2; have hfz31_3 := bF BK105.out 3; have hfz31_4 := bF BK105.out 4; have hfz31_5 := bF BK105.out 5; have hfz31_6 := bF BK105.out 6; have hfz31_7 := bF BK105.out 7; have hcz32_0 := cI BK106.out 0; have hcz32_1 := cI BK106.out 1; have hcz32_2 := cI BK106.out 2; have hcz32_3 := cI BK106.out 3; have hcz32_4 := cI BK106.out 4; have hcz32_5 := cI BK106.out 5; have hcz32_6 := cI BK106.out 6; have hcz32_7 := cI BK106.out 7; have hfz32_0 := bF BK106.out 0; have hfz32_1 := bF BK106.out 1; have hfz32_2 := bF BK106.out 2; have hfz32_3 := bF BK106.out 3; have hfz32_4 := bF BK106.out 4; have hfz32_5 := bF BK106.out 5; have hfz32_6 := bF BK106.out 6; have hfz32_7 := bF BK106.out 7))
  go_ret
  exact ⟨xW, bl HB.out⟩
 rw [if_pos c7] at H
 have c7b0 : (a0_6 == a1_6) = true := beq_iff_eq.mpr c7
 have c7b1 : (a0_6 != a1_6) = false := bne_eq_false_iff_eq.mpr c7
 clear c7
 by_cases c8 : (a0_7 != a1_7) = true
 case neg =>
  rw [if_neg c8] at H
  have c8b0 : (a0_7 != a1_7) = false := by simpa using c8
  (try (have c8b1 : decide (a0_7 = a1_7) = true := by simpa using c8))
  (try (have c8b2 : (a0_7 == a1_7) = true := by simpa using c8))
  clear c8
  obtain rfl := Option.some.inj H
  go_enter Try.func61, Try.ntmps61
  go_wp2_with (first | ((with_reducible refine gate_dst (N := 2) rfl ?_); refine box_event ?hg (N := 2) ?hd (cs := #[.int .i64 a0_0, .int .i64 a0_1, .int .i64 a0_2, .int .i64 a0_3, .int .i64 a0_4, .int .i64 a0_5, .int .i64 a0_6, .bool a0_7]) (t := 82) ?hr ?_; (case hd => rfl); (case hg => rfl); (case hr => first | (go_simp; done) | (go_simp; rfl)); intro gb105 hg w17 hbox hb; have n0_ := aM (bS (bl HB.out) hb); have n1_ := aM (hbox); have n2_ := aM ((by rw [hg]; exact (below_size (bl HB.out)) : w.heap.size ≤ gb105)); have n3_ := aM ((by rw [hg]; exact (below_size (bl HB.out)) : w.heap.size ≤ gb105)); clear HB; have HB := n0_; have BK105 := n1_; have GW105 := n2_; have GE105 := n3_; clear n0_ n1_ n2_ n3_; clear hb hbox hg) | ((with_reducible refine gate_dst (N := 3) rfl ?_); refine box_event ?hg (N := 3) ?hd (cs := #[.int .i64 a1_0, .int .i64 a1_1, .int .i64 a1_2, .int .i64 a1_3, .int .i64 a1_4, .int .i64 a1_5, .int .i64 a1_6, .bool a1_7]) (t := 82) ?hr ?_; (case hd => rfl); (case hg => rfl); (case hr => first | (go_simp; done) | (go_simp; rfl)); intro gb106 hg w18 hbox hb; have n0_ := aM (bB (g := gb105) (o := .cells #[.int .i64 a0_0, .int .i64 a0_1, .int .i64 a0_2, .int .i64 a0_3, .int .i64 a0_4, .int .i64 a0_5, .int .i64 a0_6, .bool a0_7] 82 (0, 0)) (bk BK105.out) hb); have n1_ := aM (bS (bl HB.out) hb); have n2_ := aM (hbox); have n3_ := aM ((by rw [hg]; exact (below_size (bl HB.out)) : w.heap.size ≤ gb106)); have n4_ := aM ((by rw [hg]; exact (below_size (bl HB.out)) : w.heap.size ≤ gb106)); have n5_ := aM ((by rw [hg]; exact Nat.ne_of_lt (blk_lt (g := gb105) (o := .cells #[.int .i64 a0_0, .int .i64 a0_1, .int .i64 a0_2, .int .i64 a0_3, .int .i64 a0_4, .int .i64 a0_5, .int .i64 a0_6, .bool a0_7] 82 (0, 0)) (bk BK105.out)) : gb105 ≠ gb106)); have n6_ := aM ((by rw [hg]; exact Nat.ne_of_gt (blk_lt (g := gb105) (o := .cells #[.int .i64 a0_0, .int .i64 a0_1, .int .i64 a0_2, .int .i64 a0_3, .int .i64 a0_4, .int .i64 a0_5, .int .i64 a0_6, .bool a0_7] 82 (0, 0)) (bk BK105.out)) : gb106 ≠ gb105)); clear BK105 HB; have BK105 := n0_; have HB := n1_; have BK106 := n2_; have GW106 := n3_; have GE106 := n4_; have NB105_106 := n5_; have NB106_105 := n6_; clear n0_ n1_ n2_ n3_ n4_ n5_ n6_; clear hb hbox hg; have hnb19 := NB105_106.out; have hnc19 := NB106_105.out; have hcz20_0 := cI BK105.out 0; have hcz20_1 := cI BK105.out 1; have hcz20_2 := cI BK105.out 2; have hcz20_3 := cI BK105.out 3; have hcz20_4 := cI BK105.out 4; have hcz20_5 := cI BK105.out 5; have hcz20_6 := cI BK105.out 6; have hcz20_7 := cI BK105.out 7; have hfz20_0 := bF BK105.out 0; have hfz20_1 := bF BK105.out 1; have hfz20_2 := bF BK105.out 2; have hfz20_3 := bF BK105.out 3; have hfz20_4 := bF BK105.out 4; have hfz20_5 := bF BK105.out 5; have hfz20_6 := bF BK105.out 6; have hfz20_7 := bF BK105.out 7; have hcz21_0 := cI BK106.out 0; have hcz21_1 := cI BK106.out 1; have hcz21_2 := cI BK106.out 2; have hcz21_3 := cI BK106.out 3; have hcz21_4 := cI BK106.out 4; have hcz21_5 := cI BK106.out 5; have hcz21_6 := cI BK106.out 6; have hcz21_7 := cI BK106.out 7; have hfz21_0 := bF BK106.out 0; have hfz21_1 := bF BK106.out 1; have hfz21_2 := bF BK106.out 2; have hfz21_3 := bF BK106.out 3; have hfz21_4 := bF BK106.out 4; have hfz21_5 := bF BK106.out 5; have hfz21_6 := bF BK106.out 6; have hfz21_7 := bF BK106.out 7) | ((with_reducible refine gate_callee (f := 117) rfl ?_); refine goesL_ (some 19) rfl rfl Try.func117 (by kernel_rfl) rfl #[.agg #[.int .i64 a0_2, .int .i64 a0_3, .int .i64 a0_4, .int .i64 a0_5], .agg #[.int .i64 a1_2, .int .i64 a1_3, .int .i64 a1_4, .int .i64 a1_5]] rfl xR ?_; (with_reducible refine (laws_eqVec.calls a0_2 a0_3 a0_4 a0_5 a1_2 a1_3 a1_4 a1_5 true _ A5.out).mono ?_); rintro e w22 ⟨rfl, hb⟩; refine ⟨_, rfl, ?_⟩; have n0_ := aM (bB (g := gb105) (o := .cells #[.int .i64 a0_0, .int .i64 a0_1, .int .i64 a0_2, .int .i64 a0_3, .int .i64 a0_4, .int .i64 a0_5, .int .i64 a0_6, .bool a0_7] 82 (0, 0)) (bk BK105.out) hb); have n1_ := aM (bB (g := gb106) (o := .cells #[.int .i64 a1_0, .int .i64 a1_1, .int .i64 a1_2, .int .i64 a1_3, .int .i64 a1_4, .int .i64 a1_5, .int .i64 a1_6, .bool a1_7] 82 (0, 0)) (bk BK106.out) hb); have n2_ := aM (bS (bl HB.out) hb); clear BK105 BK106 HB; have BK105 := n0_; have BK106 := n1_; have HB := n2_; clear n0_ n1_ n2_; (try clear hb); have hcz23_0 := cI BK105.out 0; have hcz23_1 := cI BK105.out 1; have hcz23_2 := cI BK105.out 2; have hcz23_3 := cI BK105.out 3; have hcz23_4 := cI BK105.out 4; have hcz23_5 := cI BK105.out 5; have hcz23_6 := cI BK105.out 6; have hcz23_7 := cI BK105.out 7; have hfz23_0 := bF BK105.out 0; have hfz23_1 := bF BK105.out 1; have hfz23_2 := bF BK105.out 2; have hfz23_3 := bF BK105.out 3; have hfz23_4 := bF BK105.out 4; have hfz23_5 := bF BK105.out 5; have hfz23_6 := bF BK105.out 6; have hfz23_7 := bF BK105.out 7; have hcz24_0 := cI BK106.out 0; have hcz24_1 := cI BK106.out 1; have hcz24_2 := cI BK106.out 2; have hcz24_3 := cI BK106.out 3; have hcz24_4 := cI BK106.out 4; have hcz24_5 := cI BK106.out 5; have hcz24_6 := cI BK106.out 6; have hcz24_7 := cI BK106.out 7; have hfz24_0 := bF BK106.out 0; have hfz24_1 := bF BK106.out 1; have hfz24_2 := bF BK106.out 2; have hfz24_3 := bF BK106.out 3; have hfz24_4 := bF BK106.out 4; have hfz24_5 := bF BK106.out 5; have hfz24_6 := bF BK106.out 6; have hfz24_7 := bF BK106.out 7))
  go_ret
  exact ⟨xW, bl HB.out⟩
 rw [if_pos c8] at H
 have c8b0 : (a0_7 != a1_7) = true := c8
 (try (have c8b1 : decide (a0_7 = a1_7) = false := by simpa using c8))
 (try (have c8b2 : (a0_7 == a1_7) = false := by simpa using c8))
 (try (have c8b3 : ¬ (a0_7 = a1_7) := by simpa using c8))
 clear c8
 obtain rfl := Option.some.inj H
 go_enter Try.func61, Try.ntmps61
 go_wp2_with (first | ((with_reducible refine gate_dst (N := 2) rfl ?_); refine box_event ?hg (N := 2) ?hd (cs := #[.int .i64 a0_0, .int .i64 a0_1, .int .i64 a0_2, .int .i64 a0_3, .int .i64 a0_4, .int .i64 a0_5, .int .i64 a0_6, .bool a0_7]) (t := 82) ?hr ?_; (case hd => rfl); (case hg => rfl); (case hr => first | (go_simp; done) | (go_simp; rfl)); intro gb105 hg w9 hbox hb; have n0_ := aM (bS (bl HB.out) hb); have n1_ := aM (hbox); have n2_ := aM ((by rw [hg]; exact (below_size (bl HB.out)) : w.heap.size ≤ gb105)); have n3_ := aM ((by rw [hg]; exact (below_size (bl HB.out)) : w.heap.size ≤ gb105)); clear HB; have HB := n0_; have BK105 := n1_; have GW105 := n2_; have GE105 := n3_; clear n0_ n1_ n2_ n3_; clear hb hbox hg) | ((with_reducible refine gate_dst (N := 3) rfl ?_); refine box_event ?hg (N := 3) ?hd (cs := #[.int .i64 a1_0, .int .i64 a1_1, .int .i64 a1_2, .int .i64 a1_3, .int .i64 a1_4, .int .i64 a1_5, .int .i64 a1_6, .bool a1_7]) (t := 82) ?hr ?_; (case hd => rfl); (case hg => rfl); (case hr => first | (go_simp; done) | (go_simp; rfl)); intro gb106 hg w10 hbox hb; have n0_ := aM (bB (g := gb105) (o := .cells #[.int .i64 a0_0, .int .i64 a0_1, .int .i64 a0_2, .int .i64 a0_3, .int .i64 a0_4, .int .i64 a0_5, .int .i64 a0_6, .bool a0_7] 82 (0, 0)) (bk BK105.out) hb); have n1_ := aM (bS (bl HB.out) hb); have n2_ := aM (hbox); have n3_ := aM ((by rw [hg]; exact (below_size (bl HB.out)) : w.heap.size ≤ gb106)); have n4_ := aM ((by rw [hg]; exact (below_size (bl HB.out)) : w.heap.size ≤ gb106)); have n5_ := aM ((by rw [hg]; exact Nat.ne_of_lt (blk_lt (g := gb105) (o := .cells #[.int .i64 a0_0, .int .i64 a0_1, .int .i64 a0_2, .int .i64 a0_3, .int .i64 a0_4, .int .i64 a0_5, .int .i64 a0_6, .bool a0_7] 82 (0, 0)) (bk BK105.out)) : gb105 ≠ gb106)); have n6_ := aM ((by rw [hg]; exact Nat.ne_of_gt (blk_lt (g := gb105) (o := .cells #[.int .i64 a0_0, .int .i64 a0_1, .int .i64 a0_2, .int .i64 a0_3, .int .i64 a0_4, .int .i64 a0_5, .int .i64 a0_6, .bool a0_7] 82 (0, 0)) (bk BK105.out)) : gb106 ≠ gb105)); clear BK105 HB; have BK105 := n0_; have HB := n1_; have BK106 := n2_; have GW106 := n3_; have GE106 := n4_; have NB105_106 := n5_; have NB106_105 := n6_; clear n0_ n1_ n2_ n3_ n4_ n5_ n6_; clear hb hbox hg; have hnb11 := NB105_106.out; have hnc11 := NB106_105.out; have hcz12_0 := cI BK105.out 0; have hcz12_1 := cI BK105.out 1; have hcz12_2 := cI BK105.out 2; have hcz12_3 := cI BK105.out 3; have hcz12_4 := cI BK105.out 4; have hcz12_5 := cI BK105.out 5; have hcz12_6 := cI BK105.out 6; have hcz12_7 := cI BK105.out 7; have hfz12_0 := bF BK105.out 0; have hfz12_1 := bF BK105.out 1; have hfz12_2 := bF BK105.out 2; have hfz12_3 := bF BK105.out 3; have hfz12_4 := bF BK105.out 4; have hfz12_5 := bF BK105.out 5; have hfz12_6 := bF BK105.out 6; have hfz12_7 := bF BK105.out 7; have hcz13_0 := cI BK106.out 0; have hcz13_1 := cI BK106.out 1; have hcz13_2 := cI BK106.out 2; have hcz13_3 := cI BK106.out 3; have hcz13_4 := cI BK106.out 4; have hcz13_5 := cI BK106.out 5; have hcz13_6 := cI BK106.out 6; have hcz13_7 := cI BK106.out 7; have hfz13_0 := bF BK106.out 0; have hfz13_1 := bF BK106.out 1; have hfz13_2 := bF BK106.out 2; have hfz13_3 := bF BK106.out 3; have hfz13_4 := bF BK106.out 4; have hfz13_5 := bF BK106.out 5; have hfz13_6 := bF BK106.out 6; have hfz13_7 := bF BK106.out 7) | ((with_reducible refine gate_callee (f := 117) rfl ?_); refine goesL_ (some 19) rfl rfl Try.func117 (by kernel_rfl) rfl #[.agg #[.int .i64 a0_2, .int .i64 a0_3, .int .i64 a0_4, .int .i64 a0_5], .agg #[.int .i64 a1_2, .int .i64 a1_3, .int .i64 a1_4, .int .i64 a1_5]] rfl xR ?_; (with_reducible refine (laws_eqVec.calls a0_2 a0_3 a0_4 a0_5 a1_2 a1_3 a1_4 a1_5 true _ A5.out).mono ?_); rintro e w14 ⟨rfl, hb⟩; refine ⟨_, rfl, ?_⟩; have n0_ := aM (bB (g := gb105) (o := .cells #[.int .i64 a0_0, .int .i64 a0_1, .int .i64 a0_2, .int .i64 a0_3, .int .i64 a0_4, .int .i64 a0_5, .int .i64 a0_6, .bool a0_7] 82 (0, 0)) (bk BK105.out) hb); have n1_ := aM (bB (g := gb106) (o := .cells #[.int .i64 a1_0, .int .i64 a1_1, .int .i64 a1_2, .int .i64 a1_3, .int .i64 a1_4, .int .i64 a1_5, .int .i64 a1_6, .bool a1_7] 82 (0, 0)) (bk BK106.out) hb); have n2_ := aM (bS (bl HB.out) hb); clear BK105 BK106 HB; have BK105 := n0_; have BK106 := n1_; have HB := n2_; clear n0_ n1_ n2_; (try clear hb); have hcz15_0 := cI BK105.out 0; have hcz15_1 := cI BK105.out 1; have hcz15_2 := cI BK105.out 2; have hcz15_3 := cI BK105.out 3; have hcz15_4 := cI BK105.out 4; have hcz15_5 := cI BK105.out 5; have hcz15_6 := cI BK105.out 6; have hcz15_7 := cI BK105.out 7; have hfz15_0 := bF BK105.out 0; have hfz15_1 := bF BK105.out 1; have hfz15_2 := bF BK105.out 2; have hfz15_3 := bF BK105.out 3; have hfz15_4 := bF BK105.out 4; have hfz15_5 := bF BK105.out 5; have hfz15_6 := bF BK105.out 6; have hfz15_7 := bF BK105.out 7; have hcz16_0 := cI BK106.out 0; have hcz16_1 := cI BK106.out 1; have hcz16_2 := cI BK106.out 2; have hcz16_3 := cI BK106.out 3; have hcz16_4 := cI BK106.out 4; have hcz16_5 := cI BK106.out 5; have hcz16_6 := cI BK106.out 6; have hcz16_7 := cI BK106.out 7; have hfz16_0 := bF BK106.out 0; have hfz16_1 := bF BK106.out 1; have hfz16_2 := bF BK106.out 2; have hfz16_3 := bF BK106.out 3; have hfz16_4 := bF BK106.out 4; have hfz16_5 := bF BK106.out 5; have hfz16_6 := bF BK106.out 6; have hfz16_7 := bF BK106.out 7))
 go_ret
 exact ⟨xW, bl HB.out⟩

def laws_eqInS.l0 : Nat → List (S82) → List (S82) → Int → Option (Bool)
 | 0, _, _, _ => none
 | k + 1, x0, x1, x5 => if x5 < (x0.length : Int) then (if 0 ≤ x5 then (if x5 < (x1.length : Int) then ((laws_eqIn.f ((rd_T82 x0 x5).f0) ((rd_T82 x0 x5).f1) ((rd_T82 x0 x5).f2.f0) ((rd_T82 x0 x5).f2.f1) ((rd_T82 x0 x5).f2.f2) ((rd_T82 x0 x5).f2.f3) ((rd_T82 x0 x5).f3) ((rd_T82 x0 x5).f4) ((rd_T82 x1 x5).f0) ((rd_T82 x1 x5).f1) ((rd_T82 x1 x5).f2.f0) ((rd_T82 x1 x5).f2.f1) ((rd_T82 x1 x5).f2.f2) ((rd_T82 x1 x5).f2.f3) ((rd_T82 x1 x5).f3) ((rd_T82 x1 x5).f4)).bind fun t110 => (if t110 = true then (laws_eqInS.l0 k x0 x1 (wrap64 (x5 + 1))) else (some false))) else (none)) else (none)) else (some true)
def laws_eqInS.f (k : Nat) (l0 : List (S82)) (l1 : List (S82)) : Option (Bool) := if (l0.length : Int) = (l1.length : Int) then (laws_eqInS.l0 k l0 l1 0) else (some false)
theorem laws_eqInS.mono_l : ∀ k, (∀ y0 y1 y2, LeO (laws_eqInS.l0 k y0 y1 y2) (laws_eqInS.l0 (k + 1) y0 y1 y2))
 | 0 => fun _ _ _ r h => by simp [laws_eqInS.l0] at h
 | k + 1 => by
  have ih0 := laws_eqInS.mono_l k
  ·intro y0 y1 y2
   unfold laws_eqInS.l0
   repeat' first
   | (with_reducible exact ih0 _ _ _)
   | (with_reducible exact LeO.refl _)
   | (with_reducible exact LeO.none _)
   | (with_reducible refine LeO.ite ?_ ?_)
   | (with_reducible refine LeO.bind ?_ (fun _ => ?_))
   | exact ih0 _ _ _
   | exact LeO.none _
   | refine LeO.ite ?_ ?_
   | refine LeO.bind ?_ (fun _ => ?_)
theorem laws_eqInS.mono : ∀ a0 a1 k, LeO (laws_eqInS.f k a0 a1) (laws_eqInS.f (k + 1) a0 a1) := by
 intro a0 a1 k
 have ih0 := laws_eqInS.mono_l k
 unfold laws_eqInS.f
 repeat' first
   | (with_reducible exact ih0 _ _ _)
   | (with_reducible exact LeO.refl _)
   | (with_reducible exact LeO.none _)
   | (with_reducible refine LeO.ite ?_ ?_)
   | (with_reducible refine LeO.bind ?_ (fun _ => ?_))
   | exact ih0 _ _ _
   | exact LeO.none _
   | refine LeO.ite ?_ ?_
   | refine LeO.bind ?_ (fun _ => ?_)
def laws_eqInS.T6 : Bool × List (List Nat × List Nat) := (true, [([], []), ([], []), ([0, 1], [0, 1]), ([2], [2]), ([], []), ([], []), ([4, 5], [4, 5]), ([6], [6]), ([3, 7], [3, 7]), ([8], [8])])
def laws_eqInS.B6 : List Nat := [0, 0, 3, 7, 0, 0, 48, 112, 255, 511]
theorem laws_eqInS.tab6 : rtab .any (opsOf Try.f45 6) = laws_eqInS.T6 := by kernel_rfl
theorem laws_eqInS.bits6 : waitsOk laws_eqInS.T6.2 laws_eqInS.B6 = true := by kernel_rfl
set_option maxHeartbeats 60000000 in
set_option maxRecDepth 100000 in
theorem laws_eqInS.calls (k : Nat) (A0 : Option Addr) (c0 : Nat) (l0 : List (S82)) (A1 : Option Addr) (c1 : Nat) (l1 : List (S82)) (r : Bool) (w : World) (hr0 : Kd.C k82 w A0 l0.length l0) (hc0 : l0.length ≤ c0) (hr1 : Kd.C k82 w A1 l1.length l1) (hc1 : l1.length ≤ c1) (h : laws_eqInS.f k l0 l1 = some r) :
  Calls Try.prog 45 #[.slice A0 l0.length c0, .slice A1 l1.length c1] w fun e w' => e = .returned (.bool r) ∧ Below w.heap.size w w' := by
 have hu82 := Try.underlying82
 have HR0 := aM hr0
 have HC0 := aM hc0
 clear hr0 hc0
 have HR1 := aM hr1
 have HC1 := aM hc1
 clear hr1 hc1
 have HB := aM (Below.refl w.heap.size w)
 have H : (if (l0.length : Int) = (l1.length : Int) then (laws_eqInS.l0 k l0 l1 0) else (some false)) = some r := h
 clear h
 by_cases c3 : (l0.length : Int) = (l1.length : Int)
 case neg =>
  rw [if_neg c3] at H
  have c3b0 : ((l0.length : Int) == (l1.length : Int)) = false := beq_eq_false_iff_ne.mpr c3
  have c3b1 : ((l0.length : Int) != (l1.length : Int)) = true := bne_iff_ne.mpr c3
  have c3b2 : (l0.length == l1.length) = false := by first | simpa using c3 | (simp at c3 ⊢; omega)
  obtain rfl := Option.some.inj H
  go_enter Try.func45, Try.ntmps45
  go_wp2
  go_ret
  exact ⟨xW, bl HB.out⟩
 rw [if_pos c3] at H
 have c3b0 : ((l0.length : Int) == (l1.length : Int)) = true := beq_iff_eq.mpr c3
 have c3b1 : ((l0.length : Int) != (l1.length : Int)) = false := bne_eq_false_iff_eq.mpr c3
 have c3b2 : (l0.length == l1.length) = true := by first | simpa using c3 | (simp at c3 ⊢; omega)
 clear c3
 have H' := aM H
 clear H
 go_enter Try.func45, Try.ntmps45
 go_wp2
 go_loopg [5] k (fun kq v5 w' => ∃ (x5_1 : Int), v5 = .int .i64 x5_1 ∧ Aside0 (laws_eqInS.l0 kq l0 l1 x5_1 = some r) ∧ Aside0 (kq ≤ k) ∧ Aside0 (Below w.heap.size w w'))
 case atStart => exact ⟨(0), xE, H', ⟨Nat.le_refl _⟩, ⟨bl HB.out⟩⟩
 case round =>
  clear H'
  try clear c1
  try clear p2
  try clear c3
  try clear c3b0
  try clear c3b1
  try clear c3b2
  obtain ⟨x5_1, rfl, HA, HK1, HB⟩ := hrel
  cases gk with
  | zero => exact absurd HA.out (by simp [laws_eqInS.l0])
  | succ k1 =>
   have H := HA.out
   clear HA
   simp only [laws_eqInS.l0] at H
   by_cases c4 : x5_1 < (l0.length : Int)
   case neg =>
    rw [if_neg c4] at H
    have c4b0 : decide (x5_1 < (l0.length : Int)) = false := decide_eq_false c4
    clear c4
    obtain rfl := Option.some.inj H
    go_wp2
    go_ret
    exact ⟨xW, bl HB.out⟩
   rw [if_pos c4] at H
   have c4b0 : decide (x5_1 < (l0.length : Int)) = true := decide_eq_true c4
   clear c4
   by_cases c5 : 0 ≤ x5_1
   case neg =>
    rw [if_neg c5] at H
    exact absurd H (by simp)
   rw [if_pos c5] at H
   have c5b0 : decide (0 ≤ x5_1) = true := decide_eq_true c5
   clear c5
   by_cases c6 : x5_1 < (l1.length : Int)
   case neg =>
    rw [if_neg c6] at H
    exact absurd H (by simp)
   rw [if_pos c6] at H
   have c6b0 : decide (x5_1 < (l1.length : Int)) = true := decide_eq_true c6
   clear c6
   replace H := Option.bind_eq_some_iff.mp H
   obtain ⟨t110, A70, H⟩ := H
   replace H : (if t110 = true then (laws_eqInS.l0 k1 l0 l1 (wrap64 (x5_1 + 1))) else (some false)) = some r := H
   have A7 := aM A70
   clear A70
   by_cases c8 : t110 = true
   case neg =>
    replace c8 := Bool.eq_false_iff.mpr c8
    subst c8
    have H1 : (some false) = some r := by rw [if_neg (show ¬ (false = true) by decide)] at H; exact H
    clear H
    have H := H1
    clear H1
    obtain rfl := Option.some.inj H
    try go_wp2
    have n0_ := aM (below_drew1 HB.out)
    clear HB
    have HB := n0_
    clear n0_
    have p108 : 0 ≤ (x5_1 : Int) := of_decide_eq_true (by first | (with_reducible assumption) | assumption)
    have q108 : x5_1 < (l0.length : Int) := of_decide_eq_true (by first | (with_reducible assumption) | assumption)
    obtain ⟨ad108, e108, hx108_0, hx108_1, hx108_2, hx108_3, hx108_4, hx108_5, hx108_6, hx108_7⟩ := at_T82 HR0.out x5_1 p108 q108
    have hw108_7 := hx108_7
    have hw108_6 := hx108_6
    have hw108_5 := hx108_5
    have hw108_4 := hx108_4
    have hw108_3 := hx108_3
    have hw108_2 := hx108_2
    have hw108_1 := hx108_1
    have hw108_0 := hx108_0
    cases e108
    replace hx108_0 := (HB.out.cell (World.block_lt_of_cell? w _ hx108_0)).trans hx108_0
    replace hx108_1 := (HB.out.cell (World.block_lt_of_cell? w _ hx108_1)).trans hx108_1
    replace hx108_2 := (HB.out.cell (World.block_lt_of_cell? w _ hx108_2)).trans hx108_2
    replace hx108_3 := (HB.out.cell (World.block_lt_of_cell? w _ hx108_3)).trans hx108_3
    replace hx108_4 := (HB.out.cell (World.block_lt_of_cell? w _ hx108_4)).trans hx108_4
    replace hx108_5 := (HB.out.cell (World.block_lt_of_cell? w _ hx108_5)).trans hx108_5
    replace hx108_6 := (HB.out.cell (World.block_lt_of_cell? w _ hx108_6)).trans hx108_6
    replace hx108_7 := (HB.out.cell (World.block_lt_of_cell? w _ hx108_7)).trans hx108_7
    replace p108 := eq_true p108
    replace q108 := eq_true q108
    have p109 : 0 ≤ (x5_1 : Int) := of_decide_eq_true (by first | (with_reducible assumption) | assumption)
    have q109 : x5_1 < (l1.length : Int) := of_decide_eq_true (by first | (with_reducible assumption) | assumption)
    obtain ⟨ad109, e109, hx109_0, hx109_1, hx109_2, hx109_3, hx109_4, hx109_5, hx109_6, hx109_7⟩ := at_T82 HR1.out x5_1 p109 q109
    have hw109_7 := hx109_7
    have hw109_6 := hx109_6
    have hw109_5 := hx109_5
    have hw109_4 := hx109_4
    have hw109_3 := hx109_3
    have hw109_2 := hx109_2
    have hw109_1 := hx109_1
    have hw109_0 := hx109_0
    cases e109
    replace hx109_0 := (HB.out.cell (World.block_lt_of_cell? w _ hx109_0)).trans hx109_0
    replace hx109_1 := (HB.out.cell (World.block_lt_of_cell? w _ hx109_1)).trans hx109_1
    replace hx109_2 := (HB.out.cell (World.block_lt_of_cell? w _ hx109_2)).trans hx109_2
    replace hx109_3 := (HB.out.cell (World.block_lt_of_cell? w _ hx109_3)).trans hx109_3
    replace hx109_4 := (HB.out.cell (World.block_lt_of_cell? w _ hx109_4)).trans hx109_4
    replace hx109_5 := (HB.out.cell (World.block_lt_of_cell? w _ hx109_5)).trans hx109_5
    replace hx109_6 := (HB.out.cell (World.block_lt_of_cell? w _ hx109_6)).trans hx109_6
    replace hx109_7 := (HB.out.cell (World.block_lt_of_cell? w _ hx109_7)).trans hx109_7
    replace p109 := eq_true p109
    replace q109 := eq_true q109
    refine start_ (n := 10) (S := fun w' => w'.cell? (ad108.add ((x5_1).toNat * 8)) = some (.int .i64 ((rd_T82 l0 x5_1).f0)) ∧ w'.cell? ⟨(ad108.add ((x5_1).toNat * 8)).block, (ad108.add ((x5_1).toNat * 8)).off + 1, none⟩ = some (.int .i64 ((rd_T82 l0 x5_1).f1)) ∧ w'.cell? ⟨(ad108.add ((x5_1).toNat * 8)).block, (ad108.add ((x5_1).toNat * 8)).off + 2, none⟩ = some (.int .i64 ((rd_T82 l0 x5_1).f2.f0)) ∧ w'.cell? ⟨(ad108.add ((x5_1).toNat * 8)).block, (ad108.add ((x5_1).toNat * 8)).off + 3, none⟩ = some (.int .i64 ((rd_T82 l0 x5_1).f2.f1)) ∧ w'.cell? ⟨(ad108.add ((x5_1).toNat * 8)).block, (ad108.add ((x5_1).toNat * 8)).off + 4, none⟩ = some (.int .i64 ((rd_T82 l0 x5_1).f2.f2)) ∧ w'.cell? ⟨(ad108.add ((x5_1).toNat * 8)).block, (ad108.add ((x5_1).toNat * 8)).off + 5, none⟩ = some (.int .i64 ((rd_T82 l0 x5_1).f2.f3)) ∧ w'.cell? ⟨(ad108.add ((x5_1).toNat * 8)).block, (ad108.add ((x5_1).toNat * 8)).off + 6, none⟩ = some (.int .i64 ((rd_T82 l0 x5_1).f3)) ∧ w'.cell? ⟨(ad108.add ((x5_1).toNat * 8)).block, (ad108.add ((x5_1).toNat * 8)).off + 7, none⟩ = some (.bool ((rd_T82 l0 x5_1).f4)) ∧ w'.cell? (ad109.add ((x5_1).toNat * 8)) = some (.int .i64 ((rd_T82 l1 x5_1).f0)) ∧ w'.cell? ⟨(ad109.add ((x5_1).toNat * 8)).block, (ad109.add ((x5_1).toNat * 8)).off + 1, none⟩ = some (.int .i64 ((rd_T82 l1 x5_1).f1)) ∧ w'.cell? ⟨(ad109.add ((x5_1).toNat * 8)).block, (ad109.add ((x5_1).toNat * 8)).off + 2, none⟩ = some (.int .i64 ((rd_T82 l1 x5_1).f2.f0)) ∧ w'.cell? ⟨(ad109.add ((x5_1).toNat * 8)).block, (ad109.add ((x5_1).toNat * 8)).off + 3, none⟩ = some (.int .i64 ((rd_T82 l1 x5_1).f2.f1)) ∧ w'.cell? ⟨(ad109.add ((x5_1).toNat * 8)).block, (ad109.add ((x5_1).toNat * 8)).off + 4, none⟩ = some (.int .i64 ((rd_T82 l1 x5_1).f2.f2)) ∧ w'.cell? ⟨(ad109.add ((x5_1).toNat * 8)).block, (ad109.add ((x5_1).toNat * 8)).off + 5, none⟩ = some (.int .i64 ((rd_T82 l1 x5_1).f2.f3)) ∧ w'.cell? ⟨(ad109.add ((x5_1).toNat * 8)).block, (ad109.add ((x5_1).toNat * 8)).off + 6, none⟩ = some (.int .i64 ((rd_T82 l1 x5_1).f3)) ∧ w'.cell? ⟨(ad109.add ((x5_1).toNat * 8)).block, (ad109.add ((x5_1).toNat * 8)).off + 7, none⟩ = some (.bool ((rd_T82 l1 x5_1).f4))) (ds := []) #[U,U,U,U,U,U,U,U,U,U] (by kernel_rfl) rfl rfl ⟨((HB.out.cell (World.block_lt_of_cell? w _ hw108_0)).trans hw108_0), ((HB.out.cell (World.block_lt_of_cell? w _ hw108_1)).trans hw108_1), ((HB.out.cell (World.block_lt_of_cell? w _ hw108_2)).trans hw108_2), ((HB.out.cell (World.block_lt_of_cell? w _ hw108_3)).trans hw108_3), ((HB.out.cell (World.block_lt_of_cell? w _ hw108_4)).trans hw108_4), ((HB.out.cell (World.block_lt_of_cell? w _ hw108_5)).trans hw108_5), ((HB.out.cell (World.block_lt_of_cell? w _ hw108_6)).trans hw108_6), ((HB.out.cell (World.block_lt_of_cell? w _ hw108_7)).trans hw108_7), ((HB.out.cell (World.block_lt_of_cell? w _ hw109_0)).trans hw109_0), ((HB.out.cell (World.block_lt_of_cell? w _ hw109_1)).trans hw109_1), ((HB.out.cell (World.block_lt_of_cell? w _ hw109_2)).trans hw109_2), ((HB.out.cell (World.block_lt_of_cell? w _ hw109_3)).trans hw109_3), ((HB.out.cell (World.block_lt_of_cell? w _ hw109_4)).trans hw109_4), ((HB.out.cell (World.block_lt_of_cell? w _ hw109_5)).trans hw109_5), ((HB.out.cell (World.block_lt_of_cell? w _ hw109_6)).trans hw109_6), ((HB.out.cell (World.block_lt_of_cell? w _ hw109_7)).trans hw109_7)⟩ (fun hHeld => ?_); refine with_tabW laws_eqInS.tab6 laws_eqInS.bits6 (fun HT_ HW_ => ?_)
    generalize wr.drew = w11 at HB hx108_0 hx108_1 hx108_2 hx108_3 hx108_4 hx108_5 hx108_6 hx108_7 hx109_0 hx109_1 hx109_2 hx109_3 hx109_4 hx109_5 hx109_6 hx109_7 hHeld ⊢
    refine pure_ (i := 0) (N := some 17) (v := ?_) (a' := ?_) #[Y,U,U,U,U,U,U,U,U,U] rfl rfl (any_of HT_.out (by kernel_rfl)) (fun _ _ _ h => h) (Or.inl ⟨by rfl, ?_⟩) ?_ ?_
    rotate_left
    ·intro w'
     go_simp
     with_reducible rfl
    rotate_left
    ·simp only [Act.put, sA, sZ, sS, i64_w, i32_w]
     rfl
    refine pure_ (i := 1) (N := some 18) (v := ?_) (a' := ?_) #[Y,Y,U,U,U,U,U,U,U,U] rfl rfl (any_of HT_.out (by kernel_rfl)) (fun _ _ _ h => h) (Or.inl ⟨by rfl, ?_⟩) ?_ ?_
    rotate_left
    ·intro w'
     go_simp
     with_reducible rfl
    rotate_left
    ·simp only [Act.put, sA, sZ, sS, i64_w, i32_w]
     rfl
    refine pure_ (i := 2) (N := some 19) (v := ?_) (a' := ?_) #[Y,Y,Y,U,U,U,U,U,U,U] rfl rfl (any_of HT_.out (by kernel_rfl)) (fun _ _ _ h => h) (Or.inl ⟨by rfl, ?_⟩) ?_ ?_
    rotate_left
    ·intro w'
     go_simp
     with_reducible rfl
    rotate_left
    ·simp only [Act.put, sA, sZ, sS, i64_w, i32_w]
     rfl
    refine pure_ (i := 4) (N := some 21) (v := ?_) (a' := ?_) #[Y,Y,Y,U,Y,U,U,U,U,U] rfl rfl (any_of HT_.out (by kernel_rfl)) (fun _ _ _ h => h) (Or.inl ⟨by rfl, ?_⟩) ?_ ?_
    rotate_left
    ·intro w'
     go_simp
     with_reducible rfl
    rotate_left
    ·simp only [Act.put, sA, sZ, sS, i64_w, i32_w]
     rfl
    refine pure_ (i := 5) (N := some 22) (v := ?_) (a' := ?_) #[Y,Y,Y,U,Y,Y,U,U,U,U] rfl rfl (any_of HT_.out (by kernel_rfl)) (fun _ _ _ h => h) (Or.inl ⟨by rfl, ?_⟩) ?_ ?_
    rotate_left
    ·intro w'
     go_simp
     with_reducible rfl
    rotate_left
    ·simp only [Act.put, sA, sZ, sS, i64_w, i32_w]
     rfl
    refine pure_ (i := 6) (N := some 23) (v := ?_) (a' := ?_) #[Y,Y,Y,U,Y,Y,Y,U,U,U] rfl rfl (any_of HT_.out (by kernel_rfl)) (fun _ _ _ h => h) (Or.inl ⟨by rfl, ?_⟩) ?_ ?_
    rotate_left
    ·intro w'
     go_simp
     with_reducible rfl
    rotate_left
    ·simp only [Act.put, sA, sZ, sS, i64_w, i32_w]
     rfl
    refine take_ (i := 3) (N := some 20) (v := ?_) (a' := ?_) #[Y,Y,Y,Y,Y,Y,Y,U,U,U] rfl rfl (take_ofW HT_.out HW_.out (by kernel_rfl)) (fun _ _ _ h => h) (Or.inl ⟨by rfl, ?_⟩) hHeld ?_ ?_
    rotate_left
    ·rintro w' ⟨s0, s1, s2, s3, s4, s5, s6, s7, s8, s9, s10, s11, s12, s13, s14, s15⟩
     go_simp
     with_reducible rfl
    rotate_left
    ·simp only [Act.put, sA, sZ, sS, i64_w, i32_w]
     rfl
    refine take_ (i := 7) (N := some 24) (v := ?_) (a' := ?_) #[Y,Y,Y,Y,Y,Y,Y,Y,U,U] rfl rfl (take_ofW HT_.out HW_.out (by kernel_rfl)) (fun _ _ _ h => h) (Or.inl ⟨by rfl, ?_⟩) hHeld ?_ ?_
    rotate_left
    ·rintro w' ⟨s0, s1, s2, s3, s4, s5, s6, s7, s8, s9, s10, s11, s12, s13, s14, s15⟩
     go_simp
     with_reducible rfl
    rotate_left
    ·simp only [Act.put, sA, sZ, sS, i64_w, i32_w]
     rfl
    refine one_ (i := 8) (N := some 25) #[Y,Y,Y,Y,Y,Y,Y,Y,Y,U] rfl rfl (one_of HT_.out (by kernel_rfl)) (by decide) (fun K hK => ?_)
    refine goes_ Try.func61 (by kernel_rfl) rfl #[.agg #[.int .i64 ((rd_T82 l0 x5_1).f0), .int .i64 ((rd_T82 l0 x5_1).f1), .int .i64 ((rd_T82 l0 x5_1).f2.f0), .int .i64 ((rd_T82 l0 x5_1).f2.f1), .int .i64 ((rd_T82 l0 x5_1).f2.f2), .int .i64 ((rd_T82 l0 x5_1).f2.f3), .int .i64 ((rd_T82 l0 x5_1).f3), .bool ((rd_T82 l0 x5_1).f4)], .agg #[.int .i64 ((rd_T82 l1 x5_1).f0), .int .i64 ((rd_T82 l1 x5_1).f1), .int .i64 ((rd_T82 l1 x5_1).f2.f0), .int .i64 ((rd_T82 l1 x5_1).f2.f1), .int .i64 ((rd_T82 l1 x5_1).f2.f2), .int .i64 ((rd_T82 l1 x5_1).f2.f3), .int .i64 ((rd_T82 l1 x5_1).f3), .bool ((rd_T82 l1 x5_1).f4)]] (by rfl) rfl rfl xR ?_
    with_reducible refine (laws_eqIn.calls ((rd_T82 l0 x5_1).f0) ((rd_T82 l0 x5_1).f1) ((rd_T82 l0 x5_1).f2.f0) ((rd_T82 l0 x5_1).f2.f1) ((rd_T82 l0 x5_1).f2.f2) ((rd_T82 l0 x5_1).f2.f3) ((rd_T82 l0 x5_1).f3) ((rd_T82 l0 x5_1).f4) ((rd_T82 l1 x5_1).f0) ((rd_T82 l1 x5_1).f1) ((rd_T82 l1 x5_1).f2.f0) ((rd_T82 l1 x5_1).f2.f1) ((rd_T82 l1 x5_1).f2.f2) ((rd_T82 l1 x5_1).f2.f3) ((rd_T82 l1 x5_1).f3) ((rd_T82 l1 x5_1).f4) false _ A7.out).mono ?_
    rintro e w12 ⟨rfl, hb⟩
    refine ⟨_, rfl, ?_⟩
    have n0_ := aM (bS (bl HB.out) hb)
    clear HB
    have HB := n0_
    clear n0_
    (try clear hb)
    (try clear hb2)
    (try clear hk)
    (try clear hi)
    refine hK.out _ _ ⟨((HB.out.cell (World.block_lt_of_cell? w _ hw108_0)).trans hw108_0), ((HB.out.cell (World.block_lt_of_cell? w _ hw108_1)).trans hw108_1), ((HB.out.cell (World.block_lt_of_cell? w _ hw108_2)).trans hw108_2), ((HB.out.cell (World.block_lt_of_cell? w _ hw108_3)).trans hw108_3), ((HB.out.cell (World.block_lt_of_cell? w _ hw108_4)).trans hw108_4), ((HB.out.cell (World.block_lt_of_cell? w _ hw108_5)).trans hw108_5), ((HB.out.cell (World.block_lt_of_cell? w _ hw108_6)).trans hw108_6), ((HB.out.cell (World.block_lt_of_cell? w _ hw108_7)).trans hw108_7), ((HB.out.cell (World.block_lt_of_cell? w _ hw109_0)).trans hw109_0), ((HB.out.cell (World.block_lt_of_cell? w _ hw109_1)).trans hw109_1), ((HB.out.cell (World.block_lt_of_cell? w _ hw109_2)).trans hw109_2), ((HB.out.cell (World.block_lt_of_cell? w _ hw109_3)).trans hw109_3), ((HB.out.cell (World.block_lt_of_cell? w _ hw109_4)).trans hw109_4), ((HB.out.cell (World.block_lt_of_cell? w _ hw109_5)).trans hw109_5), ((HB.out.cell (World.block_lt_of_cell? w _ hw109_6)).trans hw109_6), ((HB.out.cell (World.block_lt_of_cell? w _ hw109_7)).trans hw109_7)⟩ (fun hHeld => ?_)
    clear hK K
    refine norm_ (a' := ?_) ?_ ?_
    rotate_left
    ·show Act.put _ (some 25) _ = _
     simp only [Act.put, sA, sZ, sS, i64_w, i32_w]
     rfl
    refine pure_ (i := 9) (N := some 26) (v := ?_) (a' := ?_) #[Y,Y,Y,Y,Y,Y,Y,Y,Y,Y] rfl rfl (any_of HT_.out (by kernel_rfl)) (fun _ _ _ h => h) (Or.inl ⟨by rfl, ?_⟩) ?_ ?_
    rotate_left
    ·intro w'
     go_simp
     with_reducible rfl
    rotate_left
    ·simp only [Act.put, sA, sZ, sS, i64_w, i32_w]
     rfl
    refine done_ (done_of HT_.out (by kernel_rfl)) ?_
    try go_wp2
    go_ret
    exact ⟨xW, bl HB.out⟩
   subst c8
   have H1 : (laws_eqInS.l0 k1 l0 l1 (wrap64 (x5_1 + 1))) = some r := by rw [if_pos rfl] at H; exact H
   clear H
   have H := H1
   clear H1
   have H' := aM H
   clear H
   try go_wp2
   have n0_ := aM (below_drew1 HB.out)
   clear HB
   have HB := n0_
   clear n0_
   have p108 : 0 ≤ (x5_1 : Int) := of_decide_eq_true (by first | (with_reducible assumption) | assumption)
   have q108 : x5_1 < (l0.length : Int) := of_decide_eq_true (by first | (with_reducible assumption) | assumption)
   obtain ⟨ad108, e108, hx108_0, hx108_1, hx108_2, hx108_3, hx108_4, hx108_5, hx108_6, hx108_7⟩ := at_T82 HR0.out x5_1 p108 q108
   have hw108_7 := hx108_7
   have hw108_6 := hx108_6
   have hw108_5 := hx108_5
   have hw108_4 := hx108_4
   have hw108_3 := hx108_3
   have hw108_2 := hx108_2
   have hw108_1 := hx108_1
   have hw108_0 := hx108_0
   cases e108
   replace hx108_0 := (HB.out.cell (World.block_lt_of_cell? w _ hx108_0)).trans hx108_0
   replace hx108_1 := (HB.out.cell (World.block_lt_of_cell? w _ hx108_1)).trans hx108_1
   replace hx108_2 := (HB.out.cell (World.block_lt_of_cell? w _ hx108_2)).trans hx108_2
   replace hx108_3 := (HB.out.cell (World.block_lt_of_cell? w _ hx108_3)).trans hx108_3
   replace hx108_4 := (HB.out.cell (World.block_lt_of_cell? w _ hx108_4)).trans hx108_4
   replace hx108_5 := (HB.out.cell (World.block_lt_of_cell? w _ hx108_5)).trans hx108_5
   replace hx108_6 := (HB.out.cell (World.block_lt_of_cell? w _ hx108_6)).trans hx108_6
   replace hx108_7 := (HB.out.cell (World.block_lt_of_cell? w _ hx108_7)).trans hx108_7
   replace p108 := eq_true p108
   replace q108 := eq_true q108
   have p109 : 0 ≤ (x5_1 : Int) := of_decide_eq_true (by first | (with_reducible assumption) | assumption)
   have q109 : x5_1 < (l1.length : Int) := of_decide_eq_true (by first | (with_reducible assumption) | assumption)
   obtain ⟨ad109, e109, hx109_0, hx109_1, hx109_2, hx109_3, hx109_4, hx109_5, hx109_6, hx109_7⟩ := at_T82 HR1.out x5_1 p109 q109
   have hw109_7 := hx109_7
   have hw109_6 := hx109_6
   have hw109_5 := hx109_5
   have hw109_4 := hx109_4
   have hw109_3 := hx109_3
   have hw109_2 := hx109_2
   have hw109_1 := hx109_1
   have hw109_0 := hx109_0
   cases e109
   replace hx109_0 := (HB.out.cell (World.block_lt_of_cell? w _ hx109_0)).trans hx109_0
   replace hx109_1 := (HB.out.cell (World.block_lt_of_cell? w _ hx109_1)).trans hx109_1
   replace hx109_2 := (HB.out.cell (World.block_lt_of_cell? w _ hx109_2)).trans hx109_2
   replace hx109_3 := (HB.out.cell (World.block_lt_of_cell? w _ hx109_3)).trans hx109_3
   replace hx109_4 := (HB.out.cell (World.block_lt_of_cell? w _ hx109_4)).trans hx109_4
   replace hx109_5 := (HB.out.cell (World.block_lt_of_cell? w _ hx109_5)).trans hx109_5
   replace hx109_6 := (HB.out.cell (World.block_lt_of_cell? w _ hx109_6)).trans hx109_6
   replace hx109_7 := (HB.out.cell (World.block_lt_of_cell? w _ hx109_7)).trans hx109_7
   replace p109 := eq_true p109
   replace q109 := eq_true q109
   refine start_ (n := 10) (S := fun w' => w'.cell? (ad108.add ((x5_1).toNat * 8)) = some (.int .i64 ((rd_T82 l0 x5_1).f0)) ∧ w'.cell? ⟨(ad108.add ((x5_1).toNat * 8)).block, (ad108.add ((x5_1).toNat * 8)).off + 1, none⟩ = some (.int .i64 ((rd_T82 l0 x5_1).f1)) ∧ w'.cell? ⟨(ad108.add ((x5_1).toNat * 8)).block, (ad108.add ((x5_1).toNat * 8)).off + 2, none⟩ = some (.int .i64 ((rd_T82 l0 x5_1).f2.f0)) ∧ w'.cell? ⟨(ad108.add ((x5_1).toNat * 8)).block, (ad108.add ((x5_1).toNat * 8)).off + 3, none⟩ = some (.int .i64 ((rd_T82 l0 x5_1).f2.f1)) ∧ w'.cell? ⟨(ad108.add ((x5_1).toNat * 8)).block, (ad108.add ((x5_1).toNat * 8)).off + 4, none⟩ = some (.int .i64 ((rd_T82 l0 x5_1).f2.f2)) ∧ w'.cell? ⟨(ad108.add ((x5_1).toNat * 8)).block, (ad108.add ((x5_1).toNat * 8)).off + 5, none⟩ = some (.int .i64 ((rd_T82 l0 x5_1).f2.f3)) ∧ w'.cell? ⟨(ad108.add ((x5_1).toNat * 8)).block, (ad108.add ((x5_1).toNat * 8)).off + 6, none⟩ = some (.int .i64 ((rd_T82 l0 x5_1).f3)) ∧ w'.cell? ⟨(ad108.add ((x5_1).toNat * 8)).block, (ad108.add ((x5_1).toNat * 8)).off + 7, none⟩ = some (.bool ((rd_T82 l0 x5_1).f4)) ∧ w'.cell? (ad109.add ((x5_1).toNat * 8)) = some (.int .i64 ((rd_T82 l1 x5_1).f0)) ∧ w'.cell? ⟨(ad109.add ((x5_1).toNat * 8)).block, (ad109.add ((x5_1).toNat * 8)).off + 1, none⟩ = some (.int .i64 ((rd_T82 l1 x5_1).f1)) ∧ w'.cell? ⟨(ad109.add ((x5_1).toNat * 8)).block, (ad109.add ((x5_1).toNat * 8)).off + 2, none⟩ = some (.int .i64 ((rd_T82 l1 x5_1).f2.f0)) ∧ w'.cell? ⟨(ad109.add ((x5_1).toNat * 8)).block, (ad109.add ((x5_1).toNat * 8)).off + 3, none⟩ = some (.int .i64 ((rd_T82 l1 x5_1).f2.f1)) ∧ w'.cell? ⟨(ad109.add ((x5_1).toNat * 8)).block, (ad109.add ((x5_1).toNat * 8)).off + 4, none⟩ = some (.int .i64 ((rd_T82 l1 x5_1).f2.f2)) ∧ w'.cell? ⟨(ad109.add ((x5_1).toNat * 8)).block, (ad109.add ((x5_1).toNat * 8)).off + 5, none⟩ = some (.int .i64 ((rd_T82 l1 x5_1).f2.f3)) ∧ w'.cell? ⟨(ad109.add ((x5_1).toNat * 8)).block, (ad109.add ((x5_1).toNat * 8)).off + 6, none⟩ = some (.int .i64 ((rd_T82 l1 x5_1).f3)) ∧ w'.cell? ⟨(ad109.add ((x5_1).toNat * 8)).block, (ad109.add ((x5_1).toNat * 8)).off + 7, none⟩ = some (.bool ((rd_T82 l1 x5_1).f4))) (ds := []) #[U,U,U,U,U,U,U,U,U,U] (by kernel_rfl) rfl rfl ⟨((HB.out.cell (World.block_lt_of_cell? w _ hw108_0)).trans hw108_0), ((HB.out.cell (World.block_lt_of_cell? w _ hw108_1)).trans hw108_1), ((HB.out.cell (World.block_lt_of_cell? w _ hw108_2)).trans hw108_2), ((HB.out.cell (World.block_lt_of_cell? w _ hw108_3)).trans hw108_3), ((HB.out.cell (World.block_lt_of_cell? w _ hw108_4)).trans hw108_4), ((HB.out.cell (World.block_lt_of_cell? w _ hw108_5)).trans hw108_5), ((HB.out.cell (World.block_lt_of_cell? w _ hw108_6)).trans hw108_6), ((HB.out.cell (World.block_lt_of_cell? w _ hw108_7)).trans hw108_7), ((HB.out.cell (World.block_lt_of_cell? w _ hw109_0)).trans hw109_0), ((HB.out.cell (World.block_lt_of_cell? w _ hw109_1)).trans hw109_1), ((HB.out.cell (World.block_lt_of_cell? w _ hw109_2)).trans hw109_2), ((HB.out.cell (World.block_lt_of_cell? w _ hw109_3)).trans hw109_3), ((HB.out.cell (World.block_lt_of_cell? w _ hw109_4)).trans hw109_4), ((HB.out.cell (World.block_lt_of_cell? w _ hw109_5)).trans hw109_5), ((HB.out.cell (World.block_lt_of_cell? w _ hw109_6)).trans hw109_6), ((HB.out.cell (World.block_lt_of_cell? w _ hw109_7)).trans hw109_7)⟩ (fun hHeld => ?_); refine with_tabW laws_eqInS.tab6 laws_eqInS.bits6 (fun HT_ HW_ => ?_)
   generalize wr.drew = w9 at HB hx108_0 hx108_1 hx108_2 hx108_3 hx108_4 hx108_5 hx108_6 hx108_7 hx109_0 hx109_1 hx109_2 hx109_3 hx109_4 hx109_5 hx109_6 hx109_7 hHeld ⊢
   refine pure_ (i := 0) (N := some 17) (v := ?_) (a' := ?_) #[Y,U,U,U,U,U,U,U,U,U] rfl rfl (any_of HT_.out (by kernel_rfl)) (fun _ _ _ h => h) (Or.inl ⟨by rfl, ?_⟩) ?_ ?_
   rotate_left
   ·intro w'
    go_simp
    with_reducible rfl
   rotate_left
   ·simp only [Act.put, sA, sZ, sS, i64_w, i32_w]
    rfl
   refine pure_ (i := 1) (N := some 18) (v := ?_) (a' := ?_) #[Y,Y,U,U,U,U,U,U,U,U] rfl rfl (any_of HT_.out (by kernel_rfl)) (fun _ _ _ h => h) (Or.inl ⟨by rfl, ?_⟩) ?_ ?_
   rotate_left
   ·intro w'
    go_simp
    with_reducible rfl
   rotate_left
   ·simp only [Act.put, sA, sZ, sS, i64_w, i32_w]
    rfl
   refine pure_ (i := 2) (N := some 19) (v := ?_) (a' := ?_) #[Y,Y,Y,U,U,U,U,U,U,U] rfl rfl (any_of HT_.out (by kernel_rfl)) (fun _ _ _ h => h) (Or.inl ⟨by rfl, ?_⟩) ?_ ?_
   rotate_left
   ·intro w'
    go_simp
    with_reducible rfl
   rotate_left
   ·simp only [Act.put, sA, sZ, sS, i64_w, i32_w]
    rfl
   refine pure_ (i := 4) (N := some 21) (v := ?_) (a' := ?_) #[Y,Y,Y,U,Y,U,U,U,U,U] rfl rfl (any_of HT_.out (by kernel_rfl)) (fun _ _ _ h => h) (Or.inl ⟨by rfl, ?_⟩) ?_ ?_
   rotate_left
   ·intro w'
    go_simp
    with_reducible rfl
   rotate_left
   ·simp only [Act.put, sA, sZ, sS, i64_w, i32_w]
    rfl
   refine pure_ (i := 5) (N := some 22) (v := ?_) (a' := ?_) #[Y,Y,Y,U,Y,Y,U,U,U,U] rfl rfl (any_of HT_.out (by kernel_rfl)) (fun _ _ _ h => h) (Or.inl ⟨by rfl, ?_⟩) ?_ ?_
   rotate_left
   ·intro w'
    go_simp
    with_reducible rfl
   rotate_left
   ·simp only [Act.put, sA, sZ, sS, i64_w, i32_w]
    rfl
   refine pure_ (i := 6) (N := some 23) (v := ?_) (a' := ?_) #[Y,Y,Y,U,Y,Y,Y,U,U,U] rfl rfl (any_of HT_.out (by kernel_rfl)) (fun _ _ _ h => h) (Or.inl ⟨by rfl, ?_⟩) ?_ ?_
   rotate_left
   ·intro w'
    go_simp
    with_reducible rfl
   rotate_left
   ·simp only [Act.put, sA, sZ, sS, i64_w, i32_w]
    rfl
   refine take_ (i := 3) (N := some 20) (v := ?_) (a' := ?_) #[Y,Y,Y,Y,Y,Y,Y,U,U,U] rfl rfl (take_ofW HT_.out HW_.out (by kernel_rfl)) (fun _ _ _ h => h) (Or.inl ⟨by rfl, ?_⟩) hHeld ?_ ?_
   rotate_left
   ·rintro w' ⟨s0, s1, s2, s3, s4, s5, s6, s7, s8, s9, s10, s11, s12, s13, s14, s15⟩
    go_simp
    with_reducible rfl
   rotate_left
   ·simp only [Act.put, sA, sZ, sS, i64_w, i32_w]
    rfl
   refine take_ (i := 7) (N := some 24) (v := ?_) (a' := ?_) #[Y,Y,Y,Y,Y,Y,Y,Y,U,U] rfl rfl (take_ofW HT_.out HW_.out (by kernel_rfl)) (fun _ _ _ h => h) (Or.inl ⟨by rfl, ?_⟩) hHeld ?_ ?_
   rotate_left
   ·rintro w' ⟨s0, s1, s2, s3, s4, s5, s6, s7, s8, s9, s10, s11, s12, s13, s14, s15⟩
    go_simp
    with_reducible rfl
   rotate_left
   ·simp only [Act.put, sA, sZ, sS, i64_w, i32_w]
    rfl
   refine one_ (i := 8) (N := some 25) #[Y,Y,Y,Y,Y,Y,Y,Y,Y,U] rfl rfl (one_of HT_.out (by kernel_rfl)) (by decide) (fun K hK => ?_)
   refine goes_ Try.func61 (by kernel_rfl) rfl #[.agg #[.int .i64 ((rd_T82 l0 x5_1).f0), .int .i64 ((rd_T82 l0 x5_1).f1), .int .i64 ((rd_T82 l0 x5_1).f2.f0), .int .i64 ((rd_T82 l0 x5_1).f2.f1), .int .i64 ((rd_T82 l0 x5_1).f2.f2), .int .i64 ((rd_T82 l0 x5_1).f2.f3), .int .i64 ((rd_T82 l0 x5_1).f3), .bool ((rd_T82 l0 x5_1).f4)], .agg #[.int .i64 ((rd_T82 l1 x5_1).f0), .int .i64 ((rd_T82 l1 x5_1).f1), .int .i64 ((rd_T82 l1 x5_1).f2.f0), .int .i64 ((rd_T82 l1 x5_1).f2.f1), .int .i64 ((rd_T82 l1 x5_1).f2.f2), .int .i64 ((rd_T82 l1 x5_1).f2.f3), .int .i64 ((rd_T82 l1 x5_1).f3), .bool ((rd_T82 l1 x5_1).f4)]] (by rfl) rfl rfl xR ?_
   with_reducible refine (laws_eqIn.calls ((rd_T82 l0 x5_1).f0) ((rd_T82 l0 x5_1).f1) ((rd_T82 l0 x5_1).f2.f0) ((rd_T82 l0 x5_1).f2.f1) ((rd_T82 l0 x5_1).f2.f2) ((rd_T82 l0 x5_1).f2.f3) ((rd_T82 l0 x5_1).f3) ((rd_T82 l0 x5_1).f4) ((rd_T82 l1 x5_1).f0) ((rd_T82 l1 x5_1).f1) ((rd_T82 l1 x5_1).f2.f0) ((rd_T82 l1 x5_1).f2.f1) ((rd_T82 l1 x5_1).f2.f2) ((rd_T82 l1 x5_1).f2.f3) ((rd_T82 l1 x5_1).f3) ((rd_T82 l1 x5_1).f4) true _ A7.out).mono ?_
   rintro e w10 ⟨rfl, hb⟩
   refine ⟨_, rfl, ?_⟩
   have n0_ := aM (bS (bl HB.out) hb)
   clear HB
   have HB := n0_
   clear n0_
   (try clear hb)
   (try clear hb2)
   (try clear hk)
   (try clear hi)
   refine hK.out _ _ ⟨((HB.out.cell (World.block_lt_of_cell? w _ hw108_0)).trans hw108_0), ((HB.out.cell (World.block_lt_of_cell? w _ hw108_1)).trans hw108_1), ((HB.out.cell (World.block_lt_of_cell? w _ hw108_2)).trans hw108_2), ((HB.out.cell (World.block_lt_of_cell? w _ hw108_3)).trans hw108_3), ((HB.out.cell (World.block_lt_of_cell? w _ hw108_4)).trans hw108_4), ((HB.out.cell (World.block_lt_of_cell? w _ hw108_5)).trans hw108_5), ((HB.out.cell (World.block_lt_of_cell? w _ hw108_6)).trans hw108_6), ((HB.out.cell (World.block_lt_of_cell? w _ hw108_7)).trans hw108_7), ((HB.out.cell (World.block_lt_of_cell? w _ hw109_0)).trans hw109_0), ((HB.out.cell (World.block_lt_of_cell? w _ hw109_1)).trans hw109_1), ((HB.out.cell (World.block_lt_of_cell? w _ hw109_2)).trans hw109_2), ((HB.out.cell (World.block_lt_of_cell? w _ hw109_3)).trans hw109_3), ((HB.out.cell (World.block_lt_of_cell? w _ hw109_4)).trans hw109_4), ((HB.out.cell (World.block_lt_of_cell? w _ hw109_5)).trans hw109_5), ((HB.out.cell (World.block_lt_of_cell? w _ hw109_6)).trans hw109_6), ((HB.out.cell (World.block_lt_of_cell? w _ hw109_7)).trans hw109_7)⟩ (fun hHeld => ?_)
   clear hK K
   refine norm_ (a' := ?_) ?_ ?_
   rotate_left
   ·show Act.put _ (some 25) _ = _
    simp only [Act.put, sA, sZ, sS, i64_w, i32_w]
    rfl
   refine pure_ (i := 9) (N := some 26) (v := ?_) (a' := ?_) #[Y,Y,Y,Y,Y,Y,Y,Y,Y,Y] rfl rfl (any_of HT_.out (by kernel_rfl)) (fun _ _ _ h => h) (Or.inl ⟨by rfl, ?_⟩) ?_ ?_
   rotate_left
   ·intro w'
    go_simp
    with_reducible rfl
   rotate_left
   ·simp only [Act.put, sA, sZ, sS, i64_w, i32_w]
    rfl
   refine done_ (done_of HT_.out (by kernel_rfl)) ?_
   try go_wp2
   go_roundg k1
   case measure => have := HK1.out; omega
   case rel => exact ⟨(wrap64 (x5_1 + 1)), xE, H', ⟨by have := HK1.out; omega⟩, ⟨bl HB.out⟩⟩

end Go.Proofs.Ytjaldondohddpaa.PFnExactAllOf
