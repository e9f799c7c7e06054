/- Of the proof of laws.FnExactOutside: a part. No condition beyond what its theorems say. -/
/- The machine side of laws.FnExactOutside: where the plain function of that name answers true, its call returns true. No condition beyond what its arguments read as. -/
import Derived.Test.YtjmkbmpfknhcdaaVFnExactOutsidePx0
import Derived.Test.YtjmkbmpfknhcdaaVFnExactOutsidePx1
import Derived.Test.YtjmkbmpfknhcdaaVFnExactOutsidePx2
import Derived.Test.YtjmkbmpfknhcdaaVFnExactOutsidePx3
import Derived.Test.YtjmkbmpfknhcdaaVFnExactOutsidePx4
import Derived.Test.YtjmkbmpfknhcdaaVFnExactOutsideTH
namespace Go.Proofs.Ytjmkbmpfknhcdaa.PFnExactOutside
open Go.RowKit Go.Proofs.YtjmkbmpfknhcdaaW.PrintWords Go.Proofs.YtjmkbmpfknhcdaaW.PrintLast Go.Proofs.YtjmkbmpfknhcdaaW.PrintMore
attribute [local go_sem] max2_int min2_int max_two min_two max_three min_three max_four min_four   -- for this text's walks alone
set_option linter.unusedVariables false
set_option linter.unusedSimpArgs false
set_option maxHeartbeats 60000000 in
set_option maxRecDepth 100000 in
theorem laws_FnExactOutside.calls (k : Nat) (a0_0 : Int) (A0_1 : Option Addr) (c0_1 : Nat) (l0_1 : List Int) (a1_0 : Int) (a1_1 : Int) (a1_2 : Int) (A1_3 : Option Addr) (c1_3 : Nat) (l1_3 : List Int) (w : World) (hr0_1 : Kd.C (Kd.int .i64) w A0_1 l0_1.length l0_1) (hc0_1 : l0_1.length ≤ c0_1) (hr1_3 : Kd.C (Kd.int .u8) w A1_3 l1_3.length l1_3) (hc1_3 : l1_3.length ≤ c1_3) (h : laws_FnExactOutside.f k a0_0 l0_1 a1_0 a1_1 a1_2 l1_3 = some true) :
  Calls Try.prog 5 #[.agg #[.int .i64 a0_0, .slice A0_1 l0_1.length c0_1], .agg #[.int .i64 a1_0, .int .i64 a1_1, .int .i64 a1_2, .slice A1_3 l1_3.length c1_3]] w fun e w' => e = .returned (.bool true) ∧ Below w.heap.size w w' := by
 have hu44 := Try.underlying44
 have hu45 := Try.underlying45
 have hu28 := Try.underlying28
 have hu26 := Try.underlying26
 have HR0_1 := aM hr0_1
 have HC0_1 := aM hc0_1
 clear hr0_1 hc0_1
 have HR1_3 := aM hr1_3
 have HC1_3 := aM hc1_3
 clear hr1_3 hc1_3
 have HB := aM (Below.refl w.heap.size w)
 have H : ((laws_szMember.f a0_0 l0_1 1048576).bind fun t221 => (if t221 < 0 then (some true) else ((laws_szFrame.f a1_0 a1_1 a1_2 l1_3 t221).bind fun t222 => (if t222 < 0 then (some true) else ((laws_toMember.f k a0_0 l0_1).bind fun bt223 => ((laws_toFrame.f k a1_0 a1_1 a1_2 l1_3).bind fun bt227 => ((spec_Outside.f k bt223.1 bt223.2 bt227.1 bt227.2.1 bt227.2.2.1 bt227.2.2.2).bind fun bt233 => ((laws_toMember.f k a0_0 l0_1).bind fun bt241 => ((laws_toFrame.f k a1_0 a1_1 a1_2 l1_3).bind fun bt246 => ((impl_Outside.f k bt241.1 bt241.2 bt246.1 bt246.2.1 bt246.2.2.1 bt246.2.2.2).bind fun bt253 => ((laws_eqFrame.f k bt253.1 bt253.2.1 bt253.2.2.1 bt253.2.2.2.1 bt233.1 bt233.2.1 bt233.2.2.1 bt233.2.2.2.1).bind fun t261 => (if t261 = true then (laws_FnExactOutside.j0 k bt233.2.2.2.2 bt253.2.2.2.2 (bt253.2.2.2.2 != bt233.2.2.2.2) a0_0 l0_1 a1_0 a1_1 a1_2 l1_3 bt233.1 bt233.2.1 bt233.2.2.1 bt233.2.2.2.1 bt241.1 bt241.2 bt246.1 bt246.2.1 bt246.2.2.1 bt246.2.2.2 bt253.1 bt253.2.1 bt253.2.2.1 bt253.2.2.2.1) else (laws_FnExactOutside.j0 k bt233.2.2.2.2 bt253.2.2.2.2 true a0_0 l0_1 a1_0 a1_1 a1_2 l1_3 bt233.1 bt233.2.1 bt233.2.2.1 bt233.2.2.2.1 bt241.1 bt241.2 bt246.1 bt246.2.1 bt246.2.2.1 bt246.2.2.2 bt253.1 bt253.2.1 bt253.2.2.1 bt253.2.2.2.1))))))))))))) = some true := h
 clear h
 replace H := Option.bind_eq_some_iff.mp H
 obtain ⟨t221, A30, H⟩ := H
 replace H : (if t221 < 0 then (some true) else ((laws_szFrame.f a1_0 a1_1 a1_2 l1_3 t221).bind fun t222 => (if t222 < 0 then (some true) else ((laws_toMember.f k a0_0 l0_1).bind fun bt223 => ((laws_toFrame.f k a1_0 a1_1 a1_2 l1_3).bind fun bt227 => ((spec_Outside.f k bt223.1 bt223.2 bt227.1 bt227.2.1 bt227.2.2.1 bt227.2.2.2).bind fun bt233 => ((laws_toMember.f k a0_0 l0_1).bind fun bt241 => ((laws_toFrame.f k a1_0 a1_1 a1_2 l1_3).bind fun bt246 => ((impl_Outside.f k bt241.1 bt241.2 bt246.1 bt246.2.1 bt246.2.2.1 bt246.2.2.2).bind fun bt253 => ((laws_eqFrame.f k bt253.1 bt253.2.1 bt253.2.2.1 bt253.2.2.2.1 bt233.1 bt233.2.1 bt233.2.2.1 bt233.2.2.2.1).bind fun t261 => (if t261 = true then (laws_FnExactOutside.j0 k bt233.2.2.2.2 bt253.2.2.2.2 (bt253.2.2.2.2 != bt233.2.2.2.2) a0_0 l0_1 a1_0 a1_1 a1_2 l1_3 bt233.1 bt233.2.1 bt233.2.2.1 bt233.2.2.2.1 bt241.1 bt241.2 bt246.1 bt246.2.1 bt246.2.2.1 bt246.2.2.2 bt253.1 bt253.2.1 bt253.2.2.1 bt253.2.2.2.1) else (laws_FnExactOutside.j0 k bt233.2.2.2.2 bt253.2.2.2.2 true a0_0 l0_1 a1_0 a1_1 a1_2 l1_3 bt233.1 bt233.2.1 bt233.2.2.1 bt233.2.2.2.1 bt241.1 bt241.2 bt246.1 bt246.2.1 bt246.2.2.1 bt246.2.2.2 bt253.1 bt253.2.1 bt253.2.2.1 bt253.2.2.2.1)))))))))))) = some true := H
 have A3 := aM A30
 clear A30
 by_cases c4 : t221 < 0
 case pos =>
  rw [if_pos c4] at H
  have c4b0 : decide (t221 < 0) = true := decide_eq_true c4
  clear c4
  clear H
  go_enter Try.func5, Try.ntmps5
  go_wp2_with (first | ((with_reducible refine gate_dst (N := 2) rfl ?_); refine box_event ?hg (N := 2) ?hd (cs := #[.int .i64 a0_0, .slice A0_1 l0_1.length c0_1]) (t := 44) ?hr ?_; (case hd => rfl); (case hg => rfl); (case hr => first | (go_simp; done) | (go_simp; rfl)); intro gb219 hg w5 hbox hb; have n0_ := aM (bS (bl HB.out) hb); have n1_ := aM (hbox); have n2_ := aM ((by rw [hg]; exact (below_size (bl HB.out)) : w.heap.size ≤ gb219)); have n3_ := aM ((by rw [hg]; exact (below_size (bl HB.out)) : w.heap.size ≤ gb219)); clear HB; have HB := n0_; have BK219 := n1_; have GW219 := n2_; have GE219 := n3_; clear n0_ n1_ n2_ n3_; clear hb hbox hg) | ((with_reducible refine gate_dst (N := 3) rfl ?_); refine box_event ?hg (N := 3) ?hd (cs := #[.int .i64 a1_0, .int .i64 a1_1, .int .i64 a1_2, .slice A1_3 l1_3.length c1_3]) (t := 45) ?hr ?_; (case hd => rfl); (case hg => rfl); (case hr => first | (go_simp; done) | (go_simp; rfl)); intro gb220 hg w6 hbox hb; have n0_ := aM (bB (g := gb219) (o := .cells #[.int .i64 a0_0, .slice A0_1 l0_1.length c0_1] 44 (0, 0)) (bk BK219.out) hb); have n1_ := aM (bS (bl HB.out) hb); have n2_ := aM (hbox); have n3_ := aM ((by rw [hg]; exact (below_size (bl HB.out)) : w.heap.size ≤ gb220)); have n4_ := aM ((by rw [hg]; exact (below_size (bl HB.out)) : w.heap.size ≤ gb220)); have n5_ := aM ((by rw [hg]; exact Nat.ne_of_lt (blk_lt (g := gb219) (o := .cells #[.int .i64 a0_0, .slice A0_1 l0_1.length c0_1] 44 (0, 0)) (bk BK219.out)) : gb219 ≠ gb220)); have n6_ := aM ((by rw [hg]; exact Nat.ne_of_gt (blk_lt (g := gb219) (o := .cells #[.int .i64 a0_0, .slice A0_1 l0_1.length c0_1] 44 (0, 0)) (bk BK219.out)) : gb220 ≠ gb219)); clear BK219 HB; have BK219 := n0_; have HB := n1_; have BK220 := n2_; have GW220 := n3_; have GE220 := n4_; have NB219_220 := n5_; have NB220_219 := n6_; clear n0_ n1_ n2_ n3_ n4_ n5_ n6_; clear hb hbox hg; have hnb7 := NB219_220.out; have hnc7 := NB220_219.out; have hcz8_0 := cI BK219.out 0; have hcz8_1 := cI BK219.out 1; have hfz8_0 := bF BK219.out 0; have hfz8_1 := bF BK219.out 1) | ((with_reducible refine gate_callee (f := 30) rfl ?_); refine goesL_ (some 19) rfl rfl Try.func30 (by kernel_rfl) rfl #[.agg #[.int .i64 a0_0, .slice A0_1 l0_1.length c0_1], .int .i64 1048576] rfl xR ?_; (with_reducible refine (laws_szMember.calls a0_0 _ _ l0_1 1048576 t221 _ ?side1 ?side2 A3.out).mono ?_); (case side1 => repeat (first | exact (cB HR0_1.out HB.out) | (with_reducible refine Kd.C_alloc ?_ _) | (with_reducible refine Kd.C_drewN ?_ _) | (with_reducible refine Kd.C_drew ?_))); (case side2 => exact HC0_1.out); rintro e w9 ⟨rfl, hb⟩; refine ⟨_, rfl, ?_⟩; have n0_ := aM (bB (g := gb219) (o := .cells #[.int .i64 a0_0, .slice A0_1 l0_1.length c0_1] 44 (0, 0)) (bk BK219.out) hb); have n1_ := aM (bB (g := gb220) (o := .cells #[.int .i64 a1_0, .int .i64 a1_1, .int .i64 a1_2, .slice A1_3 l1_3.length c1_3] 45 (0, 0)) (bk BK220.out) hb); have n2_ := aM (bS (bl HB.out) hb); clear BK219 BK220 HB; have BK219 := n0_; have BK220 := n1_; have HB := n2_; clear n0_ n1_ n2_; (try clear hb); (try clear hb2); (try clear hk); (try clear hi)))
  go_ret
  exact ⟨by first | rfl | (simp [errW_none, errW_some] <;> rfl) | (simp [*, errW_none, errW_some] <;> rfl), by repeat (first | (with_reducible first | exact HB.out | apply below_alloc | apply pw_below_drewN | apply below_drew1 | refine below_set ?_ GE219.out | refine below_set ?_ GE220.out) | exact HB.out)⟩
 rw [if_neg c4] at H
 have c4b0 : decide (t221 < 0) = false := decide_eq_false c4
 clear c4
 replace H := Option.bind_eq_some_iff.mp H
 obtain ⟨t222, A100, H⟩ := H
 replace H : (if t222 < 0 then (some true) else ((laws_toMember.f k a0_0 l0_1).bind fun bt223 => ((laws_toFrame.f k a1_0 a1_1 a1_2 l1_3).bind fun bt227 => ((spec_Outside.f k bt223.1 bt223.2 bt227.1 bt227.2.1 bt227.2.2.1 bt227.2.2.2).bind fun bt233 => ((laws_toMember.f k a0_0 l0_1).bind fun bt241 => ((laws_toFrame.f k a1_0 a1_1 a1_2 l1_3).bind fun bt246 => ((impl_Outside.f k bt241.1 bt241.2 bt246.1 bt246.2.1 bt246.2.2.1 bt246.2.2.2).bind fun bt253 => ((laws_eqFrame.f k bt253.1 bt253.2.1 bt253.2.2.1 bt253.2.2.2.1 bt233.1 bt233.2.1 bt233.2.2.1 bt233.2.2.2.1).bind fun t261 => (if t261 = true then (laws_FnExactOutside.j0 k bt233.2.2.2.2 bt253.2.2.2.2 (bt253.2.2.2.2 != bt233.2.2.2.2) a0_0 l0_1 a1_0 a1_1 a1_2 l1_3 bt233.1 bt233.2.1 bt233.2.2.1 bt233.2.2.2.1 bt241.1 bt241.2 bt246.1 bt246.2.1 bt246.2.2.1 bt246.2.2.2 bt253.1 bt253.2.1 bt253.2.2.1 bt253.2.2.2.1) else (laws_FnExactOutside.j0 k bt233.2.2.2.2 bt253.2.2.2.2 true a0_0 l0_1 a1_0 a1_1 a1_2 l1_3 bt233.1 bt233.2.1 bt233.2.2.1 bt233.2.2.2.1 bt241.1 bt241.2 bt246.1 bt246.2.1 bt246.2.2.1 bt246.2.2.2 bt253.1 bt253.2.1 bt253.2.2.1 bt253.2.2.2.1)))))))))) = some true := H
 have A10 := aM A100
 clear A100
 by_cases c11 : t222 < 0
 case pos =>
  rw [if_pos c11] at H
  have c11b0 : decide (t222 < 0) = true := decide_eq_true c11
  clear c11
  clear H
  go_enter Try.func5, Try.ntmps5
  go_wp2_with (first | ((with_reducible refine gate_dst (N := 2) rfl ?_); refine box_event ?hg (N := 2) ?hd (cs := #[.int .i64 a0_0, .slice A0_1 l0_1.length c0_1]) (t := 44) ?hr ?_; (case hd => rfl); (case hg => rfl); (case hr => first | (go_simp; done) | (go_simp; rfl)); intro gb219 hg w12 hbox hb; have n0_ := aM (bS (bl HB.out) hb); have n1_ := aM (hbox); have n2_ := aM ((by rw [hg]; exact (below_size (bl HB.out)) : w.heap.size ≤ gb219)); have n3_ := aM ((by rw [hg]; exact (below_size (bl HB.out)) : w.heap.size ≤ gb219)); clear HB; have HB := n0_; have BK219 := n1_; have GW219 := n2_; have GE219 := n3_; clear n0_ n1_ n2_ n3_; clear hb hbox hg) | ((with_reducible refine gate_dst (N := 3) rfl ?_); refine box_event ?hg (N := 3) ?hd (cs := #[.int .i64 a1_0, .int .i64 a1_1, .int .i64 a1_2, .slice A1_3 l1_3.length c1_3]) (t := 45) ?hr ?_; (case hd => rfl); (case hg => rfl); (case hr => first | (go_simp; done) | (go_simp; rfl)); intro gb220 hg w13 hbox hb; have n0_ := aM (bB (g := gb219) (o := .cells #[.int .i64 a0_0, .slice A0_1 l0_1.length c0_1] 44 (0, 0)) (bk BK219.out) hb); have n1_ := aM (bS (bl HB.out) hb); have n2_ := aM (hbox); have n3_ := aM ((by rw [hg]; exact (below_size (bl HB.out)) : w.heap.size ≤ gb220)); have n4_ := aM ((by rw [hg]; exact (below_size (bl HB.out)) : w.heap.size ≤ gb220)); have n5_ := aM ((by rw [hg]; exact Nat.ne_of_lt (blk_lt (g := gb219) (o := .cells #[.int .i64 a0_0, .slice A0_1 l0_1.length c0_1] 44 (0, 0)) (bk BK219.out)) : gb219 ≠ gb220)); have n6_ := aM ((by rw [hg]; exact Nat.ne_of_gt (blk_lt (g := gb219) (o := .cells #[.int .i64 a0_0, .slice A0_1 l0_1.length c0_1] 44 (0, 0)) (bk BK219.out)) : gb220 ≠ gb219)); clear BK219 HB; have BK219 := n0_; have HB := n1_; have BK220 := n2_; have GW220 := n3_; have GE220 := n4_; have NB219_220 := n5_; have NB220_219 := n6_; clear n0_ n1_ n2_ n3_ n4_ n5_ n6_; clear hb hbox hg; have hnb14 := NB219_220.out; have hnc14 := NB220_219.out; have hcz15_0 := cI BK219.out 0; have hcz15_1 := cI BK219.out 1; have hfz15_0 := bF BK219.out 0; have hfz15_1 := bF BK219.out 1) | ((with_reducible refine gate_callee (f := 30) rfl ?_); refine goesL_ (some 19) rfl rfl Try.func30 (by kernel_rfl) rfl #[.agg #[.int .i64 a0_0, .slice A0_1 l0_1.length c0_1], .int .i64 1048576] rfl xR ?_; (with_reducible refine (laws_szMember.calls a0_0 _ _ l0_1 1048576 t221 _ ?side1 ?side2 A3.out).mono ?_); (case side1 => repeat (first | exact (cB HR0_1.out HB.out) | (with_reducible refine Kd.C_alloc ?_ _) | (with_reducible refine Kd.C_drewN ?_ _) | (with_reducible refine Kd.C_drew ?_))); (case side2 => exact HC0_1.out); rintro e w16 ⟨rfl, hb⟩; refine ⟨_, rfl, ?_⟩; have n0_ := aM (bB (g := gb219) (o := .cells #[.int .i64 a0_0, .slice A0_1 l0_1.length c0_1] 44 (0, 0)) (bk BK219.out) hb); have n1_ := aM (bB (g := gb220) (o := .cells #[.int .i64 a1_0, .int .i64 a1_1, .int .i64 a1_2, .slice A1_3 l1_3.length c1_3] 45 (0, 0)) (bk BK220.out) hb); have n2_ := aM (bS (bl HB.out) hb); clear BK219 BK220 HB; have BK219 := n0_; have BK220 := n1_; have HB := n2_; clear n0_ n1_ n2_; (try clear hb); (try clear hb2); (try clear hk); (try clear hi); have hcz17_0 := cI BK220.out 0; have hcz17_1 := cI BK220.out 1; have hcz17_2 := cI BK220.out 2; have hcz17_3 := cI BK220.out 3; have hfz17_0 := bF BK220.out 0; have hfz17_1 := bF BK220.out 1; have hfz17_2 := bF BK220.out 2; have hfz17_3 := bF BK220.out 3) | ((with_reducible refine gate_callee (f := 31) rfl ?_); refine goesL_ (some 24) rfl rfl Try.func31 (by kernel_rfl) rfl #[.agg #[.int .i64 a1_0, .int .i64 a1_1, .int .i64 a1_2, .slice A1_3 l1_3.length c1_3], .int .i64 t221] rfl xR ?_; (with_reducible refine (laws_szFrame.calls a1_0 a1_1 a1_2 _ _ l1_3 t221 t222 _ ?side1 ?side2 A10.out).mono ?_); (case side1 => repeat (first | exact (cB HR1_3.out HB.out) | (with_reducible refine Kd.C_alloc ?_ _) | (with_reducible refine Kd.C_drewN ?_ _) | (with_reducible refine Kd.C_drew ?_))); (case side2 => exact HC1_3.out); rintro e w18 ⟨rfl, hb⟩; refine ⟨_, rfl, ?_⟩; have n0_ := aM (bB (g := gb219) (o := .cells #[.int .i64 a0_0, .slice A0_1 l0_1.length c0_1] 44 (0, 0)) (bk BK219.out) hb); have n1_ := aM (bB (g := gb220) (o := .cells #[.int .i64 a1_0, .int .i64 a1_1, .int .i64 a1_2, .slice A1_3 l1_3.length c1_3] 45 (0, 0)) (bk BK220.out) hb); have n2_ := aM (bS (bl HB.out) hb); clear BK219 BK220 HB; have BK219 := n0_; have BK220 := n1_; have HB := n2_; clear n0_ n1_ n2_; (try clear hb); (try clear hb2); (try clear hk); (try clear hi)))
  go_ret
  exact ⟨by first | rfl | (simp [errW_none, errW_some] <;> rfl) | (simp [*, errW_none, errW_some] <;> rfl), by repeat (first | (with_reducible first | exact HB.out | apply below_alloc | apply pw_below_drewN | apply below_drew1 | refine below_set ?_ GE219.out | refine below_set ?_ GE220.out) | exact HB.out)⟩
 rw [if_neg c11] at H
 have c11b0 : decide (t222 < 0) = false := decide_eq_false c11
 clear c11
 replace H := Option.bind_eq_some_iff.mp H
 obtain ⟨⟨t223, t224⟩, A190, H⟩ := H
 replace H : ((laws_toFrame.f k a1_0 a1_1 a1_2 l1_3).bind fun bt227 => ((spec_Outside.f k t223 t224 bt227.1 bt227.2.1 bt227.2.2.1 bt227.2.2.2).bind fun bt233 => ((laws_toMember.f k a0_0 l0_1).bind fun bt241 => ((laws_toFrame.f k a1_0 a1_1 a1_2 l1_3).bind fun bt246 => ((impl_Outside.f k bt241.1 bt241.2 bt246.1 bt246.2.1 bt246.2.2.1 bt246.2.2.2).bind fun bt253 => ((laws_eqFrame.f k bt253.1 bt253.2.1 bt253.2.2.1 bt253.2.2.2.1 bt233.1 bt233.2.1 bt233.2.2.1 bt233.2.2.2.1).bind fun t261 => (if t261 = true then (laws_FnExactOutside.j0 k bt233.2.2.2.2 bt253.2.2.2.2 (bt253.2.2.2.2 != bt233.2.2.2.2) a0_0 l0_1 a1_0 a1_1 a1_2 l1_3 bt233.1 bt233.2.1 bt233.2.2.1 bt233.2.2.2.1 bt241.1 bt241.2 bt246.1 bt246.2.1 bt246.2.2.1 bt246.2.2.2 bt253.1 bt253.2.1 bt253.2.2.1 bt253.2.2.2.1) else (laws_FnExactOutside.j0 k bt233.2.2.2.2 bt253.2.2.2.2 true a0_0 l0_1 a1_0 a1_1 a1_2 l1_3 bt233.1 bt233.2.1 bt233.2.2.1 bt233.2.2.2.1 bt241.1 bt241.2 bt246.1 bt246.2.1 bt246.2.2.1 bt246.2.2.2 bt253.1 bt253.2.1 bt253.2.2.1 bt253.2.2.2.1)))))))) = some true := H
 have A19 := aM A190
 clear A190
 replace H := Option.bind_eq_some_iff.mp H
 obtain ⟨⟨t227, t228, t229, t230⟩, A200, H⟩ := H
 replace H : ((spec_Outside.f k t223 t224 t227 t228 t229 t230).bind fun bt233 => ((laws_toMember.f k a0_0 l0_1).bind fun bt241 => ((laws_toFrame.f k a1_0 a1_1 a1_2 l1_3).bind fun bt246 => ((impl_Outside.f k bt241.1 bt241.2 bt246.1 bt246.2.1 bt246.2.2.1 bt246.2.2.2).bind fun bt253 => ((laws_eqFrame.f k bt253.1 bt253.2.1 bt253.2.2.1 bt253.2.2.2.1 bt233.1 bt233.2.1 bt233.2.2.1 bt233.2.2.2.1).bind fun t261 => (if t261 = true then (laws_FnExactOutside.j0 k bt233.2.2.2.2 bt253.2.2.2.2 (bt253.2.2.2.2 != bt233.2.2.2.2) a0_0 l0_1 a1_0 a1_1 a1_2 l1_3 bt233.1 bt233.2.1 bt233.2.2.1 bt233.2.2.2.1 bt241.1 bt241.2 bt246.1 bt246.2.1 bt246.2.2.1 bt246.2.2.2 bt253.1 bt253.2.1 bt253.2.2.1 bt253.2.2.2.1) else (laws_FnExactOutside.j0 k bt233.2.2.2.2 bt253.2.2.2.2 true a0_0 l0_1 a1_0 a1_1 a1_2 l1_3 bt233.1 bt233.2.1 bt233.2.2.1 bt233.2.2.2.1 bt241.1 bt241.2 bt246.1 bt246.2.1 bt246.2.2.1 bt246.2.2.2 bt253.1 bt253.2.1 bt253.2.2.1 bt253.2.2.2.1))))))) = some true := H
 have A20 := aM A200
 clear A200
 replace H := Option.bind_eq_some_iff.mp H
 obtain ⟨⟨t233, t234, t235, t236, t239⟩, A210, H⟩ := H
 replace H : ((laws_toMember.f k a0_0 l0_1).bind fun bt241 => ((laws_toFrame.f k a1_0 a1_1 a1_2 l1_3).bind fun bt246 => ((impl_Outside.f k bt241.1 bt241.2 bt246.1 bt246.2.1 bt246.2.2.1 bt246.2.2.2).bind fun bt253 => ((laws_eqFrame.f k bt253.1 bt253.2.1 bt253.2.2.1 bt253.2.2.2.1 t233 t234 t235 t236).bind fun t261 => (if t261 = true then (laws_FnExactOutside.j0 k t239 bt253.2.2.2.2 (bt253.2.2.2.2 != t239) a0_0 l0_1 a1_0 a1_1 a1_2 l1_3 t233 t234 t235 t236 bt241.1 bt241.2 bt246.1 bt246.2.1 bt246.2.2.1 bt246.2.2.2 bt253.1 bt253.2.1 bt253.2.2.1 bt253.2.2.2.1) else (laws_FnExactOutside.j0 k t239 bt253.2.2.2.2 true a0_0 l0_1 a1_0 a1_1 a1_2 l1_3 t233 t234 t235 t236 bt241.1 bt241.2 bt246.1 bt246.2.1 bt246.2.2.1 bt246.2.2.2 bt253.1 bt253.2.1 bt253.2.2.1 bt253.2.2.2.1)))))) = some true := H
 have A21 := aM A210
 clear A210
 replace H := Option.bind_eq_some_iff.mp H
 obtain ⟨⟨t241, t242⟩, A220, H⟩ := H
 replace H : ((laws_toFrame.f k a1_0 a1_1 a1_2 l1_3).bind fun bt246 => ((impl_Outside.f k t241 t242 bt246.1 bt246.2.1 bt246.2.2.1 bt246.2.2.2).bind fun bt253 => ((laws_eqFrame.f k bt253.1 bt253.2.1 bt253.2.2.1 bt253.2.2.2.1 t233 t234 t235 t236).bind fun t261 => (if t261 = true then (laws_FnExactOutside.j0 k t239 bt253.2.2.2.2 (bt253.2.2.2.2 != t239) a0_0 l0_1 a1_0 a1_1 a1_2 l1_3 t233 t234 t235 t236 t241 t242 bt246.1 bt246.2.1 bt246.2.2.1 bt246.2.2.2 bt253.1 bt253.2.1 bt253.2.2.1 bt253.2.2.2.1) else (laws_FnExactOutside.j0 k t239 bt253.2.2.2.2 true a0_0 l0_1 a1_0 a1_1 a1_2 l1_3 t233 t234 t235 t236 t241 t242 bt246.1 bt246.2.1 bt246.2.2.1 bt246.2.2.2 bt253.1 bt253.2.1 bt253.2.2.1 bt253.2.2.2.1))))) = some true := H
 have A22 := aM A220
 clear A220
 replace H := Option.bind_eq_some_iff.mp H
 obtain ⟨⟨t246, t247, t248, t249⟩, A230, H⟩ := H
 replace H : ((impl_Outside.f k t241 t242 t246 t247 t248 t249).bind fun bt253 => ((laws_eqFrame.f k bt253.1 bt253.2.1 bt253.2.2.1 bt253.2.2.2.1 t233 t234 t235 t236).bind fun t261 => (if t261 = true then (laws_FnExactOutside.j0 k t239 bt253.2.2.2.2 (bt253.2.2.2.2 != t239) a0_0 l0_1 a1_0 a1_1 a1_2 l1_3 t233 t234 t235 t236 t241 t242 t246 t247 t248 t249 bt253.1 bt253.2.1 bt253.2.2.1 bt253.2.2.2.1) else (laws_FnExactOutside.j0 k t239 bt253.2.2.2.2 true a0_0 l0_1 a1_0 a1_1 a1_2 l1_3 t233 t234 t235 t236 t241 t242 t246 t247 t248 t249 bt253.1 bt253.2.1 bt253.2.2.1 bt253.2.2.2.1)))) = some true := H
 have A23 := aM A230
 clear A230
 replace H := Option.bind_eq_some_iff.mp H
 obtain ⟨⟨t253, t254, t255, t256, t259⟩, A240, H⟩ := H
 replace H : ((laws_eqFrame.f k t253 t254 t255 t256 t233 t234 t235 t236).bind fun t261 => (if t261 = true then (laws_FnExactOutside.j0 k t239 t259 (t259 != t239) a0_0 l0_1 a1_0 a1_1 a1_2 l1_3 t233 t234 t235 t236 t241 t242 t246 t247 t248 t249 t253 t254 t255 t256) else (laws_FnExactOutside.j0 k t239 t259 true a0_0 l0_1 a1_0 a1_1 a1_2 l1_3 t233 t234 t235 t236 t241 t242 t246 t247 t248 t249 t253 t254 t255 t256))) = some true := H
 have A24 := aM A240
 clear A240
 have HC25 := aM H
 clear H
 go_enter Try.func5, Try.ntmps5
 try go_wp2_with (first | ((with_reducible refine gate_dst (N := 2) rfl ?_); refine box_event ?hg (N := 2) ?hd (cs := #[.int .i64 a0_0, .slice A0_1 l0_1.length c0_1]) (t := 44) ?hr ?_; (case hd => rfl); (case hg => rfl); (case hr => first | (go_simp; done) | (go_simp; rfl)); intro gb219 hg w26 hbox hb; have n0_ := aM (bS (bl HB.out) hb); have n1_ := aM (hbox); have n2_ := aM ((by rw [hg]; exact (below_size (bl HB.out)) : w.heap.size ≤ gb219)); have n3_ := aM ((by rw [hg]; exact (below_size (bl HB.out)) : w.heap.size ≤ gb219)); clear HB; have HB := n0_; have BK219 := n1_; have GW219 := n2_; have GE219 := n3_; clear n0_ n1_ n2_ n3_; clear hb hbox hg) | ((with_reducible refine gate_dst (N := 3) rfl ?_); refine box_event ?hg (N := 3) ?hd (cs := #[.int .i64 a1_0, .int .i64 a1_1, .int .i64 a1_2, .slice A1_3 l1_3.length c1_3]) (t := 45) ?hr ?_; (case hd => rfl); (case hg => rfl); (case hr => first | (go_simp; done) | (go_simp; rfl)); intro gb220 hg w27 hbox hb; have n0_ := aM (bB (g := gb219) (o := .cells #[.int .i64 a0_0, .slice A0_1 l0_1.length c0_1] 44 (0, 0)) (bk BK219.out) hb); have n1_ := aM (bS (bl HB.out) hb); have n2_ := aM (hbox); have n3_ := aM ((by rw [hg]; exact (below_size (bl HB.out)) : w.heap.size ≤ gb220)); have n4_ := aM ((by rw [hg]; exact (below_size (bl HB.out)) : w.heap.size ≤ gb220)); have n5_ := aM ((by rw [hg]; exact Nat.ne_of_lt (blk_lt (g := gb219) (o := .cells #[.int .i64 a0_0, .slice A0_1 l0_1.length c0_1] 44 (0, 0)) (bk BK219.out)) : gb219 ≠ gb220)); have n6_ := aM ((by rw [hg]; exact Nat.ne_of_gt (blk_lt (g := gb219) (o := .cells #[.int .i64 a0_0, .slice A0_1 l0_1.length c0_1] 44 (0, 0)) (bk BK219.out)) : gb220 ≠ gb219)); clear BK219 HB; have BK219 := n0_; have HB := n1_; have BK220 := n2_; have GW220 := n3_; have GE220 := n4_; have NB219_220 := n5_; have NB220_219 := n6_; clear n0_ n1_ n2_ n3_ n4_ n5_ n6_; clear hb hbox hg; have hnb28 := NB219_220.out; have hnc28 := NB220_219.out; have hcz29_0 := cI BK219.out 0; have hcz29_1 := cI BK219.out 1; have hfz29_0 := bF BK219.out 0; have hfz29_1 := bF BK219.out 1) | ((with_reducible refine gate_callee (f := 30) rfl ?_); refine goesL_ (some 19) rfl rfl Try.func30 (by kernel_rfl) rfl #[.agg #[.int .i64 a0_0, .slice A0_1 l0_1.length c0_1], .int .i64 1048576] rfl xR ?_; (with_reducible refine (laws_szMember.calls a0_0 _ _ l0_1 1048576 t221 _ ?side1 ?side2 A3.out).mono ?_); (case side1 => repeat (first | exact (cB HR0_1.out HB.out) | (with_reducible refine Kd.C_alloc ?_ _) | (with_reducible refine Kd.C_drewN ?_ _) | (with_reducible refine Kd.C_drew ?_))); (case side2 => exact HC0_1.out); rintro e w30 ⟨rfl, hb⟩; refine ⟨_, rfl, ?_⟩; have n0_ := aM (bB (g := gb219) (o := .cells #[.int .i64 a0_0, .slice A0_1 l0_1.length c0_1] 44 (0, 0)) (bk BK219.out) hb); have n1_ := aM (bB (g := gb220) (o := .cells #[.int .i64 a1_0, .int .i64 a1_1, .int .i64 a1_2, .slice A1_3 l1_3.length c1_3] 45 (0, 0)) (bk BK220.out) hb); have n2_ := aM (bS (bl HB.out) hb); clear BK219 BK220 HB; have BK219 := n0_; have BK220 := n1_; have HB := n2_; clear n0_ n1_ n2_; (try clear hb); (try clear hb2); (try clear hk); (try clear hi); have hcz31_0 := cI BK220.out 0; have hcz31_1 := cI BK220.out 1; have hcz31_2 := cI BK220.out 2; have hcz31_3 := cI BK220.out 3; have hfz31_0 := bF BK220.out 0; have hfz31_1 := bF BK220.out 1; have hfz31_2 := bF BK220.out 2; have hfz31_3 := bF BK220.out 3) | ((with_reducible refine gate_callee (f := 31) rfl ?_); refine goesL_ (some 24) rfl rfl Try.func31 (by kernel_rfl) rfl #[.agg #[.int .i64 a1_0, .int .i64 a1_1, .int .i64 a1_2, .slice A1_3 l1_3.length c1_3], .int .i64 t221] rfl xR ?_; (with_reducible refine (laws_szFrame.calls a1_0 a1_1 a1_2 _ _ l1_3 t221 t222 _ ?side1 ?side2 A10.out).mono ?_); (case side1 => repeat (first | exact (cB HR1_3.out HB.out) | (with_reducible refine Kd.C_alloc ?_ _) | (with_reducible refine Kd.C_drewN ?_ _) | (with_reducible refine Kd.C_drew ?_))); (case side2 => exact HC1_3.out); rintro e w32 ⟨rfl, hb⟩; refine ⟨_, rfl, ?_⟩; have n0_ := aM (bB (g := gb219) (o := .cells #[.int .i64 a0_0, .slice A0_1 l0_1.length c0_1] 44 (0, 0)) (bk BK219.out) hb); have n1_ := aM (bB (g := gb220) (o := .cells #[.int .i64 a1_0, .int .i64 a1_1, .int .i64 a1_2, .slice A1_3 l1_3.length c1_3] 45 (0, 0)) (bk BK220.out) hb); have n2_ := aM (bS (bl HB.out) hb); clear BK219 BK220 HB; have BK219 := n0_; have BK220 := n1_; have HB := n2_; clear n0_ n1_ n2_; (try clear hb); (try clear hb2); (try clear hk); (try clear hi)))
 have n0_ := aM (blk_drew BK219.out)
 have n1_ := aM (blk_drew BK220.out)
 have n2_ := aM (below_drew1 HB.out)
 clear BK219 BK220 HB
 have BK219 := n0_
 have BK220 := n1_
 have HB := n2_
 clear n0_ n1_ n2_
 refine start_ (n := 11) (S := fun w' => w'.cell? ⟨gb219, 0, none⟩ = some (.int .i64 a0_0) ∧ w'.cell? ⟨gb219, 1, none⟩ = some (.slice A0_1 l0_1.length c0_1) ∧ w'.cell? ⟨gb220, 0, none⟩ = some (.int .i64 a1_0) ∧ w'.cell? ⟨gb220, 1, none⟩ = some (.int .i64 a1_1) ∧ w'.cell? ⟨gb220, 2, none⟩ = some (.int .i64 a1_2) ∧ w'.cell? ⟨gb220, 3, none⟩ = some (.slice A1_3 l1_3.length c1_3)) (ds := []) #[U,U,U,U,U,U,U,U,U,U,U] (by kernel_rfl) rfl rfl ⟨cI BK219.out 0, cI BK219.out 1, cI BK220.out 0, cI BK220.out 1, cI BK220.out 2, cI BK220.out 3⟩ (fun hHeld => ?_); refine with_tabW laws_FnExactOutside.tab8 laws_FnExactOutside.bits8 (fun HT_ HW_ => ?_)
 generalize w32.drew = w33 at BK219 BK220 HB hHeld ⊢
 refine take_ (i := 0) (N := some 28) (v := ?_) (a' := ?_) #[Y,U,U,U,U,U,U,U,U,U,U] rfl rfl (take_ofW HT_.out HW_.out (by kernel_rfl)) (fun _ _ _ h => h) (Or.inl ⟨by rfl, ?_⟩) hHeld ?_ ?_
 rotate_left
 ·rintro w' ⟨s0, s1, s2, s3, s4, s5⟩
  go_simp
  with_reducible rfl
 rotate_left
 ·simp only [Act.put, sA, sZ, sS, i64_w, i32_w]
  rfl
 refine take_ (i := 2) (N := some 30) (v := ?_) (a' := ?_) #[Y,U,Y,U,U,U,U,U,U,U,U] rfl rfl (take_ofW HT_.out HW_.out (by kernel_rfl)) (fun _ _ _ h => h) (Or.inl ⟨by rfl, ?_⟩) hHeld ?_ ?_
 rotate_left
 ·rintro w' ⟨s0, s1, s2, s3, s4, s5⟩
  go_simp
  with_reducible rfl
 rotate_left
 ·simp only [Act.put, sA, sZ, sS, i64_w, i32_w]
  rfl
 refine join_ (σ := Value × Value × Value × Nat) 2 #[Y,Y,Y,Y,Y,Y,Y,Y,Y,U,U] (fun s_ => [(29, .agg #[.int .i64 t223, s_.1]), (31, .agg #[.int .i64 t227, .int .i64 t228, .int .i64 t229, s_.2.1]), (32, .tuple #[.agg #[.int .i64 t233, .int .i64 t234, .int .i64 t235, s_.2.2.1], .bool t239]), (6, .pointer (some ⟨s_.2.2.2, 0, none⟩)), (27, .tuple #[.agg #[.int .i64 t233, .int .i64 t234, .int .i64 t235, s_.2.2.1], .bool t239]), (33, .agg #[.int .i64 t233, .int .i64 t234, .int .i64 t235, s_.2.2.1]), (34, .bool t239)]) (fun s_ w' => (w'.cell? ⟨gb219, 0, none⟩ = some (.int .i64 a0_0) ∧ w'.cell? ⟨gb219, 1, none⟩ = some (.slice A0_1 l0_1.length c0_1) ∧ w'.cell? ⟨gb220, 0, none⟩ = some (.int .i64 a1_0) ∧ w'.cell? ⟨gb220, 1, none⟩ = some (.int .i64 a1_1) ∧ w'.cell? ⟨gb220, 2, none⟩ = some (.int .i64 a1_2) ∧ w'.cell? ⟨gb220, 3, none⟩ = some (.slice A1_3 l1_3.length c1_3)) ∧ (Kd.R (Kd.int .i64) 3 w' w.heap.size (fun _ => True) s_.1 t224) ∧ (Kd.R (Kd.int .u8) 5 w' w.heap.size (fun k_ => some k_ ≠ (s_.2.2.1 : Value).ownBlock) s_.2.1 t230) ∧ (Kd.R (Kd.int .u8) 5 w' w.heap.size (fun k_ => some k_ ≠ (s_.2.1 : Value).ownBlock) s_.2.2.1 t236) ∧ (w'.heap[gb219]? = some (.cells #[.int .i64 a0_0, .slice A0_1 l0_1.length c0_1] 44 (0, 0))) ∧ (w'.heap[gb220]? = some (.cells #[.int .i64 a1_0, .int .i64 a1_1, .int .i64 a1_2, .slice A1_3 l1_3.length c1_3] 45 (0, 0))) ∧ (w'.heap[s_.2.2.2]? = some (.cells #[.int .i64 0, .int .i64 0, .int .i64 0, .slice none 0 0] 28 (0, 0))) ∧ (w.heap.size ≤ s_.2.2.2) ∧ (w.heap.size ≤ s_.2.2.2) ∧ (gb219 ≠ s_.2.2.2) ∧ (s_.2.2.2 ≠ gb219) ∧ (gb220 ≠ s_.2.2.2) ∧ (s_.2.2.2 ≠ gb220) ∧ (Below w.heap.size w w')) ?_ ?_
 rotate_left
 ·intro hCont
  refine two_ (i := 1) (j := 8) (Ni := some 29) (Nj := some 6) #[Y,Y,Y,U,U,U,U,U,U,U,U] #[Y,U,Y,U,U,U,U,U,Y,U,U] rfl rfl rfl rfl (two_of HT_.out (by kernel_rfl)) (by decide) (by decide) (fun K hK => ?_) (fun K hK => ?_)
  ·skip
   refine goes_ Try.func32 (by kernel_rfl) rfl #[.agg #[.int .i64 a0_0, .slice A0_1 l0_1.length c0_1]] (by rfl) rfl rfl xR ?_
   with_reducible refine (laws_toMember.calls k a0_0 _ _ l0_1 t223 t224 _ ?side1 ?side2 A19.out).mono ?_
   (case side1 => repeat (first | exact (cB HR0_1.out HB.out) | (with_reducible refine Kd.C_alloc ?_ _) | (with_reducible refine Kd.C_drewN ?_ _) | (with_reducible refine Kd.C_drew ?_)))
   (case side2 => exact HC0_1.out)
   rintro e w34 ⟨v225, rfl, ho0, hb⟩
   refine ⟨_, rfl, ?_⟩
   have n0_ := aM (Kd.R_lower ho0 (below_size (bl HB.out)))
   have n1_ := aM (bB (g := gb219) (o := .cells #[.int .i64 a0_0, .slice A0_1 l0_1.length c0_1] 44 (0, 0)) (bk BK219.out) hb)
   have n2_ := aM (bB (g := gb220) (o := .cells #[.int .i64 a1_0, .int .i64 a1_1, .int .i64 a1_2, .slice A1_3 l1_3.length c1_3] 45 (0, 0)) (bk BK220.out) hb)
   have n3_ := aM (bS (bl HB.out) hb)
   clear BK219 BK220 HB
   have HO226 := n0_
   have BK219 := n1_
   have BK220 := n2_
   have HB := n3_
   clear n0_ n1_ n2_ n3_
   (try clear hb)
   (try clear hb2)
   (try clear hk)
   (try clear hi)
   (try clear ho0)
   refine hK.out _ _ ⟨cI BK219.out 0, cI BK219.out 1, cI BK220.out 0, cI BK220.out 1, cI BK220.out 2, cI BK220.out 3⟩ (fun hHeld => ?_)
   clear hK K
   refine norm_ (a' := ?_) ?_ ?_
   rotate_left
   ·show Act.put _ (some 29) _ = _
    simp only [Act.put, sA, sZ, sS, i64_w, i32_w]
    rfl
   refine two_ (i := 3) (j := 8) (Ni := some 31) (Nj := some 6) #[Y,Y,Y,Y,U,U,U,U,U,U,U] #[Y,Y,Y,U,U,U,U,U,Y,U,U] rfl rfl rfl rfl (two_of HT_.out (by kernel_rfl)) (by decide) (by decide) (fun K hK => ?_) (fun K hK => ?_)
   ·skip
    refine goes_ Try.func33 (by kernel_rfl) rfl #[.agg #[.int .i64 a1_0, .int .i64 a1_1, .int .i64 a1_2, .slice A1_3 l1_3.length c1_3]] (by rfl) rfl rfl xR ?_
    with_reducible refine (laws_toFrame.calls k a1_0 a1_1 a1_2 _ _ l1_3 t227 t228 t229 t230 _ ?side1 ?side2 A20.out).mono ?_
    (case side1 => repeat (first | exact (cB HR1_3.out HB.out) | (with_reducible refine Kd.C_alloc ?_ _) | (with_reducible refine Kd.C_drewN ?_ _) | (with_reducible refine Kd.C_drew ?_)))
    (case side2 => exact HC1_3.out)
    rintro e w35 ⟨v231, rfl, ho0, hb⟩
    refine ⟨_, rfl, ?_⟩
    have n0_ := aM (kB (kr HO226.out) hb)
    have n1_ := aM (Kd.R_lower ho0 (below_size (bl HB.out)))
    have n2_ := aM (bB (g := gb219) (o := .cells #[.int .i64 a0_0, .slice A0_1 l0_1.length c0_1] 44 (0, 0)) (bk BK219.out) hb)
    have n3_ := aM (bB (g := gb220) (o := .cells #[.int .i64 a1_0, .int .i64 a1_1, .int .i64 a1_2, .slice A1_3 l1_3.length c1_3] 45 (0, 0)) (bk BK220.out) hb)
    have n4_ := aM (bS (bl HB.out) hb)
    clear HO226 BK219
    clear BK220 HB
    have HO226 := n0_
    have HO232 := n1_
    have BK219 := n2_
    have BK220 := n3_
    have HB := n4_
    clear n0_ n1_ n2_ n3_ n4_
    (try clear hb)
    (try clear hb2)
    (try clear hk)
    (try clear hi)
    (try clear ho0)
    obtain ⟨Ao36, co36, eo36⟩ := Kd.R_slice HO226.out
    (first | subst eo36 | (injection eo36 with f1_ f2_ f3_; have f4_ := f1_.symm; have f5_ := f3_.symm; clear f1_ f2_ f3_; subst f4_; subst f5_))
    obtain ⟨Ao37, co37, eo37⟩ := Kd.R_slice HO232.out
    (first | subst eo37 | (injection eo37 with f1_ f2_ f3_; have f4_ := f1_.symm; have f5_ := f3_.symm; clear f1_ f2_ f3_; subst f4_; subst f5_))
    refine hK.out _ _ ⟨cI BK219.out 0, cI BK219.out 1, cI BK220.out 0, cI BK220.out 1, cI BK220.out 2, cI BK220.out 3⟩ (fun hHeld => ?_)
    clear hK K
    refine norm_ (a' := ?_) ?_ ?_
    rotate_left
    ·show Act.put _ (some 31) _ = _
     simp only [Act.put, sA, sZ, sS, i64_w, i32_w]
     rfl
    refine two_ (i := 4) (j := 8) (Ni := some 32) (Nj := some 6) #[Y,Y,Y,Y,Y,U,U,U,U,U,U] #[Y,Y,Y,Y,U,U,U,U,Y,U,U] rfl rfl rfl rfl (two_of HT_.out (by kernel_rfl)) (by decide) (by decide) (fun K hK => ?_) (fun K hK => ?_)
    ·skip
     refine goes_ Try.func15 (by kernel_rfl) rfl #[.agg #[.int .i64 t223, .slice Ao36 t224.length co36], .agg #[.int .i64 t227, .int .i64 t228, .int .i64 t229, .slice Ao37 t230.length co37]] (by rfl) rfl rfl xR ?_
     with_reducible refine (spec_Outside.calls k t223 _ _ t224 t227 t228 t229 _ _ t230 t233 t234 t235 t236 t239 _ ?side1 ?side2 ?side3 ?side4 A21.out).mono ?_
     (case side1 => repeat (first | exact (Kd.R_reads' HO226.out).2.2 | (with_reducible refine Kd.C_alloc ?_ _) | (with_reducible refine Kd.C_drewN ?_ _) | (with_reducible refine Kd.C_drew ?_)))
     (case side2 => exact (Kd.R_reads' HO226.out).2.1)
     (case side3 => repeat (first | exact (Kd.R_reads' HO232.out).2.2 | (with_reducible refine Kd.C_alloc ?_ _) | (with_reducible refine Kd.C_drewN ?_ _) | (with_reducible refine Kd.C_drew ?_)))
     (case side4 => exact (Kd.R_reads' HO232.out).2.1)
     rintro e w38 ⟨v237, rfl, ho0, hb⟩
     refine ⟨_, rfl, ?_⟩
     have n0_ := aM (kB (kr HO226.out) hb)
     have n1_ := aM (Kd.R_elder' (kr HO232.out) (Kd.R_base ho0) hb)
     have n2_ := aM (Kd.R_lower (Kd.R_new' ho0 (Kd.R_lt (kr HO232.out))) (below_size (bl HB.out)))
     have n3_ := aM (bB (g := gb219) (o := .cells #[.int .i64 a0_0, .slice A0_1 l0_1.length c0_1] 44 (0, 0)) (bk BK219.out) hb)
     have n4_ := aM (bB (g := gb220) (o := .cells #[.int .i64 a1_0, .int .i64 a1_1, .int .i64 a1_2, .slice A1_3 l1_3.length c1_3] 45 (0, 0)) (bk BK220.out) hb)
     have n5_ := aM (bS (bl HB.out) hb)
     clear HO226 HO232
     clear BK219 BK220 HB
     have HO226 := n0_
     have HO232 := n1_
     have HO238 := n2_
     have BK219 := n3_
     have BK220 := n4_
     have HB := n5_
     clear n0_ n1_ n2_ n3_ n4_ n5_
     (try clear hb)
     (try clear hb2)
     (try clear hk)
     (try clear hi)
     (try clear ho0)
     refine hK.out _ _ ⟨cI BK219.out 0, cI BK219.out 1, cI BK220.out 0, cI BK220.out 1, cI BK220.out 2, cI BK220.out 3⟩ (fun hHeld => ?_)
     clear hK K
     refine norm_ (a' := ?_) ?_ ?_
     rotate_left
     ·show Act.put _ (some 32) _ = _
      simp only [Act.put, sA, sZ, sS, i64_w, i32_w]
      rfl
     refine pure_ (i := 5) (N := some 27) (v := ?_) (a' := ?_) #[Y,Y,Y,Y,Y,Y,U,U,U,U,U] rfl rfl (any_of HT_.out (by kernel_rfl)) (fun _ _ _ h => h) (Or.inl ⟨by rfl, ?_⟩) ?_ ?_
     rotate_left
     ·intro w'
      go_simp
      with_reducible rfl
     rotate_left
     ·simp only [Act.put, sA, sZ, sS, i64_w, i32_w]
      rfl
     refine pure_ (i := 6) (N := some 33) (v := ?_) (a' := ?_) #[Y,Y,Y,Y,Y,Y,Y,U,U,U,U] rfl rfl (any_of HT_.out (by kernel_rfl)) (fun _ _ _ h => h) (Or.inl ⟨by rfl, ?_⟩) ?_ ?_
     rotate_left
     ·intro w'
      go_simp
      with_reducible rfl
     rotate_left
     ·simp only [Act.put, sA, sZ, sS, i64_w, i32_w]
      rfl
     refine pure_ (i := 7) (N := some 34) (v := ?_) (a' := ?_) #[Y,Y,Y,Y,Y,Y,Y,Y,U,U,U] rfl rfl (any_of HT_.out (by kernel_rfl)) (fun _ _ _ h => h) (Or.inl ⟨by rfl, ?_⟩) ?_ ?_
     rotate_left
     ·intro w'
      go_simp
      with_reducible rfl
     rotate_left
     ·simp only [Act.put, sA, sZ, sS, i64_w, i32_w]
      rfl
     refine one_ (i := 8) (N := some 6) #[Y,Y,Y,Y,Y,Y,Y,Y,Y,U,U] rfl rfl (one_of HT_.out (by kernel_rfl)) (by decide) (fun K hK => ?_)
     refine box_step ?hg (N := 6) ?hd (cs := #[.int .i64 0, .int .i64 0, .int .i64 0, .slice none 0 0]) (t := 28) ?hr ?_; (case hd => rfl); (case hg => rfl); (case hr => first | (go_simp; done) | (go_simp; rfl))
     intro gb240 hg w39 hbox hb
     have n0_ := aM (kB (kr HO226.out) hb)
     have n1_ := aM (kB (kr HO232.out) hb)
     have n2_ := aM (kB (kr HO238.out) hb)
     have n3_ := aM (bB (g := gb219) (o := .cells #[.int .i64 a0_0, .slice A0_1 l0_1.length c0_1] 44 (0, 0)) (bk BK219.out) hb)
     have n4_ := aM (bB (g := gb220) (o := .cells #[.int .i64 a1_0, .int .i64 a1_1, .int .i64 a1_2, .slice A1_3 l1_3.length c1_3] 45 (0, 0)) (bk BK220.out) hb)
     have n5_ := aM (bS (bl HB.out) hb)
     have n6_ := aM (hbox)
     have n7_ := aM ((by rw [hg]; exact (below_size (bl HB.out)) : w.heap.size ≤ gb240))
     have n8_ := aM ((by rw [hg]; exact (below_size (bl HB.out)) : w.heap.size ≤ gb240))
     have n9_ := aM ((by rw [hg]; exact Nat.ne_of_lt (blk_lt (g := gb219) (o := .cells #[.int .i64 a0_0, .slice A0_1 l0_1.length c0_1] 44 (0, 0)) (bk BK219.out)) : gb219 ≠ gb240))
     have n10_ := aM ((by rw [hg]; exact Nat.ne_of_gt (blk_lt (g := gb219) (o := .cells #[.int .i64 a0_0, .slice A0_1 l0_1.length c0_1] 44 (0, 0)) (bk BK219.out)) : gb240 ≠ gb219))
     have n11_ := aM ((by rw [hg]; exact Nat.ne_of_lt (blk_lt (g := gb220) (o := .cells #[.int .i64 a1_0, .int .i64 a1_1, .int .i64 a1_2, .slice A1_3 l1_3.length c1_3] 45 (0, 0)) (bk BK220.out)) : gb220 ≠ gb240))
     have n12_ := aM ((by rw [hg]; exact Nat.ne_of_gt (blk_lt (g := gb220) (o := .cells #[.int .i64 a1_0, .int .i64 a1_1, .int .i64 a1_2, .slice A1_3 l1_3.length c1_3] 45 (0, 0)) (bk BK220.out)) : gb240 ≠ gb220))
     clear HO226 HO232
     clear HO238 BK219
     clear BK220 HB
     have HO226 := n0_
     have HO232 := n1_
     have HO238 := n2_
     have BK219 := n3_
     have BK220 := n4_
     have HB := n5_
     have BK240 := n6_
     have GW240 := n7_
     have GE240 := n8_
     have NB219_240 := n9_
     have NB240_219 := n10_
     have NB220_240 := n11_
     have NB240_220 := n12_
     clear n0_ n1_ n2_ n3_ n4_ n5_ n6_ n7_ n8_ n9_ n10_ n11_ n12_
     clear hb hbox hg
     refine hK.out _ _ ⟨cI BK219.out 0, cI BK219.out 1, cI BK220.out 0, cI BK220.out 1, cI BK220.out 2, cI BK220.out 3⟩ (fun hHeld => ?_)
     clear hK K
     refine norm_ (a' := ?_) ?_ ?_
     rotate_left
     ·show Act.put _ (some 6) _ = _
      simp only [Act.put, sA, sZ, sS, i64_w, i32_w]
      rfl
     exact norm_ (by simp only [putAll, Act.put, sA, sZ, sS]) (hCont (.slice Ao36 t224.length co36, .slice Ao37 t230.length co37, v237, gb240) _ ⟨hHeld, (kr HO226.out), (kr (Kd.R_mono HO232.out (fun _ hk => hk.2))), (kr (Kd.R_mono HO238.out (fun _ hk => hk.2))), (bk BK219.out), (bk BK220.out), (bk BK240.out), GW240.out, GE240.out, NB219_240.out, NB240_219.out, NB220_240.out, NB240_220.out, (bl HB.out)⟩)
    ·skip
     refine box_step ?hg (N := 6) ?hd (cs := #[.int .i64 0, .int .i64 0, .int .i64 0, .slice none 0 0]) (t := 28) ?hr ?_; (case hd => rfl); (case hg => rfl); (case hr => first | (go_simp; done) | (go_simp; rfl))
     intro gb240 hg w36 hbox hb
     have n0_ := aM (kB (kr HO226.out) hb)
     have n1_ := aM (kB (kr HO232.out) hb)
     have n2_ := aM (bB (g := gb219) (o := .cells #[.int .i64 a0_0, .slice A0_1 l0_1.length c0_1] 44 (0, 0)) (bk BK219.out) hb)
     have n3_ := aM (bB (g := gb220) (o := .cells #[.int .i64 a1_0, .int .i64 a1_1, .int .i64 a1_2, .slice A1_3 l1_3.length c1_3] 45 (0, 0)) (bk BK220.out) hb)
     have n4_ := aM (bS (bl HB.out) hb)
     have n5_ := aM (hbox)
     have n6_ := aM ((by rw [hg]; exact (below_size (bl HB.out)) : w.heap.size ≤ gb240))
     have n7_ := aM ((by rw [hg]; exact (below_size (bl HB.out)) : w.heap.size ≤ gb240))
     have n8_ := aM ((by rw [hg]; exact Nat.ne_of_lt (blk_lt (g := gb219) (o := .cells #[.int .i64 a0_0, .slice A0_1 l0_1.length c0_1] 44 (0, 0)) (bk BK219.out)) : gb219 ≠ gb240))
     have n9_ := aM ((by rw [hg]; exact Nat.ne_of_gt (blk_lt (g := gb219) (o := .cells #[.int .i64 a0_0, .slice A0_1 l0_1.length c0_1] 44 (0, 0)) (bk BK219.out)) : gb240 ≠ gb219))
     have n10_ := aM ((by rw [hg]; exact Nat.ne_of_lt (blk_lt (g := gb220) (o := .cells #[.int .i64 a1_0, .int .i64 a1_1, .int .i64 a1_2, .slice A1_3 l1_3.length c1_3] 45 (0, 0)) (bk BK220.out)) : gb220 ≠ gb240))
     have n11_ := aM ((by rw [hg]; exact Nat.ne_of_gt (blk_lt (g := gb220) (o := .cells #[.int .i64 a1_0, .int .i64 a1_1, .int .i64 a1_2, .slice A1_3 l1_3.length c1_3] 45 (0, 0)) (bk BK220.out)) : gb240 ≠ gb220))
     clear HO226 HO232
     clear BK219 BK220 HB
     have HO226 := n0_
     have HO232 := n1_
     have BK219 := n2_
     have BK220 := n3_
     have HB := n4_
     have BK240 := n5_
     have GW240 := n6_
     have GE240 := n7_
     have NB219_240 := n8_
     have NB240_219 := n9_
     have NB220_240 := n10_
     have NB240_220 := n11_
     clear n0_ n1_ n2_ n3_ n4_ n5_ n6_ n7_ n8_ n9_ n10_ n11_
     clear hb hbox hg
     obtain ⟨Ao37, co37, eo37⟩ := Kd.R_slice HO226.out
     (first | subst eo37 | (injection eo37 with f1_ f2_ f3_; have f4_ := f1_.symm; have f5_ := f3_.symm; clear f1_ f2_ f3_; subst f4_; subst f5_))
     obtain ⟨Ao38, co38, eo38⟩ := Kd.R_slice HO232.out
     (first | subst eo38 | (injection eo38 with f1_ f2_ f3_; have f4_ := f1_.symm; have f5_ := f3_.symm; clear f1_ f2_ f3_; subst f4_; subst f5_))
     refine hK.out _ _ ⟨cI BK219.out 0, cI BK219.out 1, cI BK220.out 0, cI BK220.out 1, cI BK220.out 2, cI BK220.out 3⟩ (fun hHeld => ?_)
     clear hK K
     refine norm_ (a' := ?_) ?_ ?_
     rotate_left
     ·show Act.put _ (some 6) _ = _
      simp only [Act.put, sA, sZ, sS, i64_w, i32_w]
      rfl
     refine one_ (i := 4) (N := some 32) #[Y,Y,Y,Y,Y,U,U,U,Y,U,U] rfl rfl (one_of HT_.out (by kernel_rfl)) (by decide) (fun K hK => ?_)
     refine goes_ Try.func15 (by kernel_rfl) rfl #[.agg #[.int .i64 t223, .slice Ao37 t224.length co37], .agg #[.int .i64 t227, .int .i64 t228, .int .i64 t229, .slice Ao38 t230.length co38]] (by rfl) rfl rfl xR ?_
     with_reducible refine (spec_Outside.calls k t223 _ _ t224 t227 t228 t229 _ _ t230 t233 t234 t235 t236 t239 _ ?side1 ?side2 ?side3 ?side4 A21.out).mono ?_
     (case side1 => repeat (first | exact (Kd.R_reads' HO226.out).2.2 | (with_reducible refine Kd.C_alloc ?_ _) | (with_reducible refine Kd.C_drewN ?_ _) | (with_reducible refine Kd.C_drew ?_)))
     (case side2 => exact (Kd.R_reads' HO226.out).2.1)
     (case side3 => repeat (first | exact (Kd.R_reads' HO232.out).2.2 | (with_reducible refine Kd.C_alloc ?_ _) | (with_reducible refine Kd.C_drewN ?_ _) | (with_reducible refine Kd.C_drew ?_)))
     (case side4 => exact (Kd.R_reads' HO232.out).2.1)
     rintro e w39 ⟨v237, rfl, ho0, hb⟩
     refine ⟨_, rfl, ?_⟩
     have n0_ := aM (kB (kr HO226.out) hb)
     have n1_ := aM (Kd.R_elder' (kr HO232.out) (Kd.R_base ho0) hb)
     have n2_ := aM (Kd.R_lower (Kd.R_new' ho0 (Kd.R_lt (kr HO232.out))) (below_size (bl HB.out)))
     have n3_ := aM (bB (g := gb219) (o := .cells #[.int .i64 a0_0, .slice A0_1 l0_1.length c0_1] 44 (0, 0)) (bk BK219.out) hb)
     have n4_ := aM (bB (g := gb220) (o := .cells #[.int .i64 a1_0, .int .i64 a1_1, .int .i64 a1_2, .slice A1_3 l1_3.length c1_3] 45 (0, 0)) (bk BK220.out) hb)
     have n5_ := aM (bB (g := gb240) (o := .cells #[.int .i64 0, .int .i64 0, .int .i64 0, .slice none 0 0] 28 (0, 0)) (bk BK240.out) hb)
     have n6_ := aM (bS (bl HB.out) hb)
     clear HO226 HO232
     clear BK219 BK220
     clear BK240 HB
     have HO226 := n0_
     have HO232 := n1_
     have HO238 := n2_
     have BK219 := n3_
     have BK220 := n4_
     have BK240 := n5_
     have HB := n6_
     clear n0_ n1_ n2_ n3_ n4_ n5_ n6_
     (try clear hb)
     (try clear hb2)
     (try clear hk)
     (try clear hi)
     (try clear ho0)
     refine hK.out _ _ ⟨cI BK219.out 0, cI BK219.out 1, cI BK220.out 0, cI BK220.out 1, cI BK220.out 2, cI BK220.out 3⟩ (fun hHeld => ?_)
     clear hK K
     refine norm_ (a' := ?_) ?_ ?_
     rotate_left
     ·show Act.put _ (some 32) _ = _
      simp only [Act.put, sA, sZ, sS, i64_w, i32_w]
      rfl
     refine pure_ (i := 5) (N := some 27) (v := ?_) (a' := ?_) #[Y,Y,Y,Y,Y,Y,U,U,Y,U,U] rfl rfl (any_of HT_.out (by kernel_rfl)) (fun _ _ _ h => h) (Or.inl ⟨by rfl, ?_⟩) ?_ ?_
     rotate_left
     ·intro w'
      go_simp
      with_reducible rfl
     rotate_left
     ·simp only [Act.put, sA, sZ, sS, i64_w, i32_w]
      rfl
     refine pure_ (i := 6) (N := some 33) (v := ?_) (a' := ?_) #[Y,Y,Y,Y,Y,Y,Y,U,Y,U,U] rfl rfl (any_of HT_.out (by kernel_rfl)) (fun _ _ _ h => h) (Or.inl ⟨by rfl, ?_⟩) ?_ ?_
     rotate_left
     ·intro w'
      go_simp
      with_reducible rfl
     rotate_left
     ·simp only [Act.put, sA, sZ, sS, i64_w, i32_w]
      rfl
     refine pure_ (i := 7) (N := some 34) (v := ?_) (a' := ?_) #[Y,Y,Y,Y,Y,Y,Y,Y,Y,U,U] rfl rfl (any_of HT_.out (by kernel_rfl)) (fun _ _ _ h => h) (Or.inl ⟨by rfl, ?_⟩) ?_ ?_
     rotate_left
     ·intro w'
      go_simp
      with_reducible rfl
     rotate_left
     ·simp only [Act.put, sA, sZ, sS, i64_w, i32_w]
      rfl
     exact norm_ (by simp only [putAll, Act.put, sA, sZ, sS]) (hCont (.slice Ao37 t224.length co37, .slice Ao38 t230.length co38, v237, gb240) _ ⟨hHeld, (kr HO226.out), (kr (Kd.R_mono HO232.out (fun _ hk => hk.2))), (kr (Kd.R_mono HO238.out (fun _ hk => hk.2))), (bk BK219.out), (bk BK220.out), (bk BK240.out), GW240.out, GE240.out, NB219_240.out, NB240_219.out, NB220_240.out, NB240_220.out, (bl HB.out)⟩)
   ·skip
    refine box_step ?hg (N := 6) ?hd (cs := #[.int .i64 0, .int .i64 0, .int .i64 0, .slice none 0 0]) (t := 28) ?hr ?_; (case hd => rfl); (case hg => rfl); (case hr => first | (go_simp; done) | (go_simp; rfl))
    intro gb240 hg w35 hbox hb
    have n0_ := aM (kB (kr HO226.out) hb)
    have n1_ := aM (bB (g := gb219) (o := .cells #[.int .i64 a0_0, .slice A0_1 l0_1.length c0_1] 44 (0, 0)) (bk BK219.out) hb)
    have n2_ := aM (bB (g := gb220) (o := .cells #[.int .i64 a1_0, .int .i64 a1_1, .int .i64 a1_2, .slice A1_3 l1_3.length c1_3] 45 (0, 0)) (bk BK220.out) hb)
    have n3_ := aM (bS (bl HB.out) hb)
    have n4_ := aM (hbox)
    have n5_ := aM ((by rw [hg]; exact (below_size (bl HB.out)) : w.heap.size ≤ gb240))
    have n6_ := aM ((by rw [hg]; exact (below_size (bl HB.out)) : w.heap.size ≤ gb240))
    have n7_ := aM ((by rw [hg]; exact Nat.ne_of_lt (blk_lt (g := gb219) (o := .cells #[.int .i64 a0_0, .slice A0_1 l0_1.length c0_1] 44 (0, 0)) (bk BK219.out)) : gb219 ≠ gb240))
    have n8_ := aM ((by rw [hg]; exact Nat.ne_of_gt (blk_lt (g := gb219) (o := .cells #[.int .i64 a0_0, .slice A0_1 l0_1.length c0_1] 44 (0, 0)) (bk BK219.out)) : gb240 ≠ gb219))
    have n9_ := aM ((by rw [hg]; exact Nat.ne_of_lt (blk_lt (g := gb220) (o := .cells #[.int .i64 a1_0, .int .i64 a1_1, .int .i64 a1_2, .slice A1_3 l1_3.length c1_3] 45 (0, 0)) (bk BK220.out)) : gb220 ≠ gb240))
    have n10_ := aM ((by rw [hg]; exact Nat.ne_of_gt (blk_lt (g := gb220) (o := .cells #[.int .i64 a1_0, .int .i64 a1_1, .int .i64 a1_2, .slice A1_3 l1_3.length c1_3] 45 (0, 0)) (bk BK220.out)) : gb240 ≠ gb220))
    clear HO226 BK219
    clear BK220 HB
    have HO226 := n0_
    have BK219 := n1_
    have BK220 := n2_
    have HB := n3_
    have BK240 := n4_
    have GW240 := n5_
    have GE240 := n6_
    have NB219_240 := n7_
    have NB240_219 := n8_
    have NB220_240 := n9_
    have NB240_220 := n10_
    clear n0_ n1_ n2_ n3_ n4_ n5_ n6_ n7_ n8_ n9_ n10_
    clear hb hbox hg
    refine hK.out _ _ ⟨cI BK219.out 0, cI BK219.out 1, cI BK220.out 0, cI BK220.out 1, cI BK220.out 2, cI BK220.out 3⟩ (fun hHeld => ?_)
    clear hK K
    refine norm_ (a' := ?_) ?_ ?_
    rotate_left
    ·show Act.put _ (some 6) _ = _
     simp only [Act.put, sA, sZ, sS, i64_w, i32_w]
     rfl
    refine one_ (i := 3) (N := some 31) #[Y,Y,Y,Y,U,U,U,U,Y,U,U] rfl rfl (one_of HT_.out (by kernel_rfl)) (by decide) (fun K hK => ?_)
    refine goes_ Try.func33 (by kernel_rfl) rfl #[.agg #[.int .i64 a1_0, .int .i64 a1_1, .int .i64 a1_2, .slice A1_3 l1_3.length c1_3]] (by rfl) rfl rfl xR ?_
    with_reducible refine (laws_toFrame.calls k a1_0 a1_1 a1_2 _ _ l1_3 t227 t228 t229 t230 _ ?side1 ?side2 A20.out).mono ?_
    (case side1 => repeat (first | exact (cB HR1_3.out HB.out) | (with_reducible refine Kd.C_alloc ?_ _) | (with_reducible refine Kd.C_drewN ?_ _) | (with_reducible refine Kd.C_drew ?_)))
    (case side2 => exact HC1_3.out)
    rintro e w36 ⟨v231, rfl, ho0, hb⟩
    refine ⟨_, rfl, ?_⟩
    have n0_ := aM (kB (kr HO226.out) hb)
    have n1_ := aM (Kd.R_lower ho0 (below_size (bl HB.out)))
    have n2_ := aM (bB (g := gb219) (o := .cells #[.int .i64 a0_0, .slice A0_1 l0_1.length c0_1] 44 (0, 0)) (bk BK219.out) hb)
    have n3_ := aM (bB (g := gb220) (o := .cells #[.int .i64 a1_0, .int .i64 a1_1, .int .i64 a1_2, .slice A1_3 l1_3.length c1_3] 45 (0, 0)) (bk BK220.out) hb)
    have n4_ := aM (bB (g := gb240) (o := .cells #[.int .i64 0, .int .i64 0, .int .i64 0, .slice none 0 0] 28 (0, 0)) (bk BK240.out) hb)
    have n5_ := aM (bS (bl HB.out) hb)
    clear HO226 BK219
    clear BK220 BK240 HB
    have HO226 := n0_
    have HO232 := n1_
    have BK219 := n2_
    have BK220 := n3_
    have BK240 := n4_
    have HB := n5_
    clear n0_ n1_ n2_ n3_ n4_ n5_
    (try clear hb)
    (try clear hb2)
    (try clear hk)
    (try clear hi)
    (try clear ho0)
    obtain ⟨Ao37, co37, eo37⟩ := Kd.R_slice HO226.out
    (first | subst eo37 | (injection eo37 with f1_ f2_ f3_; have f4_ := f1_.symm; have f5_ := f3_.symm; clear f1_ f2_ f3_; subst f4_; subst f5_))
    obtain ⟨Ao38, co38, eo38⟩ := Kd.R_slice HO232.out
    (first | subst eo38 | (injection eo38 with f1_ f2_ f3_; have f4_ := f1_.symm; have f5_ := f3_.symm; clear f1_ f2_ f3_; subst f4_; subst f5_))
    refine hK.out _ _ ⟨cI BK219.out 0, cI BK219.out 1, cI BK220.out 0, cI BK220.out 1, cI BK220.out 2, cI BK220.out 3⟩ (fun hHeld => ?_)
    clear hK K
    refine norm_ (a' := ?_) ?_ ?_
    rotate_left
    ·show Act.put _ (some 31) _ = _
     simp only [Act.put, sA, sZ, sS, i64_w, i32_w]
     rfl
    refine one_ (i := 4) (N := some 32) #[Y,Y,Y,Y,Y,U,U,U,Y,U,U] rfl rfl (one_of HT_.out (by kernel_rfl)) (by decide) (fun K hK => ?_)
    refine goes_ Try.func15 (by kernel_rfl) rfl #[.agg #[.int .i64 t223, .slice Ao37 t224.length co37], .agg #[.int .i64 t227, .int .i64 t228, .int .i64 t229, .slice Ao38 t230.length co38]] (by rfl) rfl rfl xR ?_
    with_reducible refine (spec_Outside.calls k t223 _ _ t224 t227 t228 t229 _ _ t230 t233 t234 t235 t236 t239 _ ?side1 ?side2 ?side3 ?side4 A21.out).mono ?_
    (case side1 => repeat (first | exact (Kd.R_reads' HO226.out).2.2 | (with_reducible refine Kd.C_alloc ?_ _) | (with_reducible refine Kd.C_drewN ?_ _) | (with_reducible refine Kd.C_drew ?_)))
    (case side2 => exact (Kd.R_reads' HO226.out).2.1)
    (case side3 => repeat (first | exact (Kd.R_reads' HO232.out).2.2 | (with_reducible refine Kd.C_alloc ?_ _) | (with_reducible refine Kd.C_drewN ?_ _) | (with_reducible refine Kd.C_drew ?_)))
    (case side4 => exact (Kd.R_reads' HO232.out).2.1)
    rintro e w39 ⟨v237, rfl, ho0, hb⟩
    refine ⟨_, rfl, ?_⟩
    have n0_ := aM (kB (kr HO226.out) hb)
    have n1_ := aM (Kd.R_elder' (kr HO232.out) (Kd.R_base ho0) hb)
    have n2_ := aM (Kd.R_lower (Kd.R_new' ho0 (Kd.R_lt (kr HO232.out))) (below_size (bl HB.out)))
    have n3_ := aM (bB (g := gb219) (o := .cells #[.int .i64 a0_0, .slice A0_1 l0_1.length c0_1] 44 (0, 0)) (bk BK219.out) hb)
    have n4_ := aM (bB (g := gb220) (o := .cells #[.int .i64 a1_0, .int .i64 a1_1, .int .i64 a1_2, .slice A1_3 l1_3.length c1_3] 45 (0, 0)) (bk BK220.out) hb)
    have n5_ := aM (bB (g := gb240) (o := .cells #[.int .i64 0, .int .i64 0, .int .i64 0, .slice none 0 0] 28 (0, 0)) (bk BK240.out) hb)
    have n6_ := aM (bS (bl HB.out) hb)
    clear HO226 HO232
    clear BK219 BK220
    clear BK240 HB
    have HO226 := n0_
    have HO232 := n1_
    have HO238 := n2_
    have BK219 := n3_
    have BK220 := n4_
    have BK240 := n5_
    have HB := n6_
    clear n0_ n1_ n2_ n3_ n4_ n5_ n6_
    (try clear hb)
    (try clear hb2)
    (try clear hk)
    (try clear hi)
    (try clear ho0)
    refine hK.out _ _ ⟨cI BK219.out 0, cI BK219.out 1, cI BK220.out 0, cI BK220.out 1, cI BK220.out 2, cI BK220.out 3⟩ (fun hHeld => ?_)
    clear hK K
    refine norm_ (a' := ?_) ?_ ?_
    rotate_left
    ·show Act.put _ (some 32) _ = _
     simp only [Act.put, sA, sZ, sS, i64_w, i32_w]
     rfl
    refine pure_ (i := 5) (N := some 27) (v := ?_) (a' := ?_) #[Y,Y,Y,Y,Y,Y,U,U,Y,U,U] rfl rfl (any_of HT_.out (by kernel_rfl)) (fun _ _ _ h => h) (Or.inl ⟨by rfl, ?_⟩) ?_ ?_
    rotate_left
    ·intro w'
     go_simp
     with_reducible rfl
    rotate_left
    ·simp only [Act.put, sA, sZ, sS, i64_w, i32_w]
     rfl
    refine pure_ (i := 6) (N := some 33) (v := ?_) (a' := ?_) #[Y,Y,Y,Y,Y,Y,Y,U,Y,U,U] rfl rfl (any_of HT_.out (by kernel_rfl)) (fun _ _ _ h => h) (Or.inl ⟨by rfl, ?_⟩) ?_ ?_
    rotate_left
    ·intro w'
     go_simp
     with_reducible rfl
    rotate_left
    ·simp only [Act.put, sA, sZ, sS, i64_w, i32_w]
     rfl
    refine pure_ (i := 7) (N := some 34) (v := ?_) (a' := ?_) #[Y,Y,Y,Y,Y,Y,Y,Y,Y,U,U] rfl rfl (any_of HT_.out (by kernel_rfl)) (fun _ _ _ h => h) (Or.inl ⟨by rfl, ?_⟩) ?_ ?_
    rotate_left
    ·intro w'
     go_simp
     with_reducible rfl
    rotate_left
    ·simp only [Act.put, sA, sZ, sS, i64_w, i32_w]
     rfl
    exact norm_ (by simp only [putAll, Act.put, sA, sZ, sS]) (hCont (.slice Ao37 t224.length co37, .slice Ao38 t230.length co38, v237, gb240) _ ⟨hHeld, (kr HO226.out), (kr (Kd.R_mono HO232.out (fun _ hk => hk.2))), (kr (Kd.R_mono HO238.out (fun _ hk => hk.2))), (bk BK219.out), (bk BK220.out), (bk BK240.out), GW240.out, GE240.out, NB219_240.out, NB240_219.out, NB220_240.out, NB240_220.out, (bl HB.out)⟩)
  ·skip
   refine box_step ?hg (N := 6) ?hd (cs := #[.int .i64 0, .int .i64 0, .int .i64 0, .slice none 0 0]) (t := 28) ?hr ?_; (case hd => rfl); (case hg => rfl); (case hr => first | (go_simp; done) | (go_simp; rfl))
   intro gb240 hg w34 hbox hb
   have n0_ := aM (bB (g := gb219) (o := .cells #[.int .i64 a0_0, .slice A0_1 l0_1.length c0_1] 44 (0, 0)) (bk BK219.out) hb)
   have n1_ := aM (bB (g := gb220) (o := .cells #[.int .i64 a1_0, .int .i64 a1_1, .int .i64 a1_2, .slice A1_3 l1_3.length c1_3] 45 (0, 0)) (bk BK220.out) hb)
   have n2_ := aM (bS (bl HB.out) hb)
   have n3_ := aM (hbox)
   have n4_ := aM ((by rw [hg]; exact (below_size (bl HB.out)) : w.heap.size ≤ gb240))
   have n5_ := aM ((by rw [hg]; exact (below_size (bl HB.out)) : w.heap.size ≤ gb240))
   have n6_ := aM ((by rw [hg]; exact Nat.ne_of_lt (blk_lt (g := gb219) (o := .cells #[.int .i64 a0_0, .slice A0_1 l0_1.length c0_1] 44 (0, 0)) (bk BK219.out)) : gb219 ≠ gb240))
   have n7_ := aM ((by rw [hg]; exact Nat.ne_of_gt (blk_lt (g := gb219) (o := .cells #[.int .i64 a0_0, .slice A0_1 l0_1.length c0_1] 44 (0, 0)) (bk BK219.out)) : gb240 ≠ gb219))
   have n8_ := aM ((by rw [hg]; exact Nat.ne_of_lt (blk_lt (g := gb220) (o := .cells #[.int .i64 a1_0, .int .i64 a1_1, .int .i64 a1_2, .slice A1_3 l1_3.length c1_3] 45 (0, 0)) (bk BK220.out)) : gb220 ≠ gb240))
   have n9_ := aM ((by rw [hg]; exact Nat.ne_of_gt (blk_lt (g := gb220) (o := .cells #[.int .i64 a1_0, .int .i64 a1_1, .int .i64 a1_2, .slice A1_3 l1_3.length c1_3] 45 (0, 0)) (bk BK220.out)) : gb240 ≠ gb220))
   clear BK219 BK220 HB
   have BK219 := n0_
   have BK220 := n1_
   have HB := n2_
   have BK240 := n3_
   have GW240 := n4_
   have GE240 := n5_
   have NB219_240 := n6_
   have NB240_219 := n7_
   have NB220_240 := n8_
   have NB240_220 := n9_
   clear n0_ n1_ n2_ n3_ n4_ n5_ n6_ n7_ n8_ n9_
   clear hb hbox hg
   refine hK.out _ _ ⟨cI BK219.out 0, cI BK219.out 1, cI BK220.out 0, cI BK220.out 1, cI BK220.out 2, cI BK220.out 3⟩ (fun hHeld => ?_)
   clear hK K
   refine norm_ (a' := ?_) ?_ ?_
   rotate_left
   ·show Act.put _ (some 6) _ = _
    simp only [Act.put, sA, sZ, sS, i64_w, i32_w]
    rfl
   refine one_ (i := 1) (N := some 29) #[Y,Y,Y,U,U,U,U,U,Y,U,U] rfl rfl (one_of HT_.out (by kernel_rfl)) (by decide) (fun K hK => ?_)
   refine goes_ Try.func32 (by kernel_rfl) rfl #[.agg #[.int .i64 a0_0, .slice A0_1 l0_1.length c0_1]] (by rfl) rfl rfl xR ?_
   with_reducible refine (laws_toMember.calls k a0_0 _ _ l0_1 t223 t224 _ ?side1 ?side2 A19.out).mono ?_
   (case side1 => repeat (first | exact (cB HR0_1.out HB.out) | (with_reducible refine Kd.C_alloc ?_ _) | (with_reducible refine Kd.C_drewN ?_ _) | (with_reducible refine Kd.C_drew ?_)))
   (case side2 => exact HC0_1.out)
   rintro e w35 ⟨v225, rfl, ho0, hb⟩
   refine ⟨_, rfl, ?_⟩
   have n0_ := aM (Kd.R_lower ho0 (below_size (bl HB.out)))
   have n1_ := aM (bB (g := gb219) (o := .cells #[.int .i64 a0_0, .slice A0_1 l0_1.length c0_1] 44 (0, 0)) (bk BK219.out) hb)
   have n2_ := aM (bB (g := gb220) (o := .cells #[.int .i64 a1_0, .int .i64 a1_1, .int .i64 a1_2, .slice A1_3 l1_3.length c1_3] 45 (0, 0)) (bk BK220.out) hb)
   have n3_ := aM (bB (g := gb240) (o := .cells #[.int .i64 0, .int .i64 0, .int .i64 0, .slice none 0 0] 28 (0, 0)) (bk BK240.out) hb)
   have n4_ := aM (bS (bl HB.out) hb)
   clear BK219 BK220
   clear BK240 HB
   have HO226 := n0_
   have BK219 := n1_
   have BK220 := n2_
   have BK240 := n3_
   have HB := n4_
   clear n0_ n1_ n2_ n3_ n4_
   (try clear hb)
   (try clear hb2)
   (try clear hk)
   (try clear hi)
   (try clear ho0)
   refine hK.out _ _ ⟨cI BK219.out 0, cI BK219.out 1, cI BK220.out 0, cI BK220.out 1, cI BK220.out 2, cI BK220.out 3⟩ (fun hHeld => ?_)
   clear hK K
   refine norm_ (a' := ?_) ?_ ?_
   rotate_left
   ·show Act.put _ (some 29) _ = _
    simp only [Act.put, sA, sZ, sS, i64_w, i32_w]
    rfl
   refine one_ (i := 3) (N := some 31) #[Y,Y,Y,Y,U,U,U,U,Y,U,U] rfl rfl (one_of HT_.out (by kernel_rfl)) (by decide) (fun K hK => ?_)
   refine goes_ Try.func33 (by kernel_rfl) rfl #[.agg #[.int .i64 a1_0, .int .i64 a1_1, .int .i64 a1_2, .slice A1_3 l1_3.length c1_3]] (by rfl) rfl rfl xR ?_
   with_reducible refine (laws_toFrame.calls k a1_0 a1_1 a1_2 _ _ l1_3 t227 t228 t229 t230 _ ?side1 ?side2 A20.out).mono ?_
   (case side1 => repeat (first | exact (cB HR1_3.out HB.out) | (with_reducible refine Kd.C_alloc ?_ _) | (with_reducible refine Kd.C_drewN ?_ _) | (with_reducible refine Kd.C_drew ?_)))
   (case side2 => exact HC1_3.out)
   rintro e w36 ⟨v231, rfl, ho0, hb⟩
   refine ⟨_, rfl, ?_⟩
   have n0_ := aM (kB (kr HO226.out) hb)
   have n1_ := aM (Kd.R_lower ho0 (below_size (bl HB.out)))
   have n2_ := aM (bB (g := gb219) (o := .cells #[.int .i64 a0_0, .slice A0_1 l0_1.length c0_1] 44 (0, 0)) (bk BK219.out) hb)
   have n3_ := aM (bB (g := gb220) (o := .cells #[.int .i64 a1_0, .int .i64 a1_1, .int .i64 a1_2, .slice A1_3 l1_3.length c1_3] 45 (0, 0)) (bk BK220.out) hb)
   have n4_ := aM (bB (g := gb240) (o := .cells #[.int .i64 0, .int .i64 0, .int .i64 0, .slice none 0 0] 28 (0, 0)) (bk BK240.out) hb)
   have n5_ := aM (bS (bl HB.out) hb)
   clear HO226 BK219
   clear BK220 BK240 HB
   have HO226 := n0_
   have HO232 := n1_
   have BK219 := n2_
   have BK220 := n3_
   have BK240 := n4_
   have HB := n5_
   clear n0_ n1_ n2_ n3_ n4_ n5_
   (try clear hb)
   (try clear hb2)
   (try clear hk)
   (try clear hi)
   (try clear ho0)
   obtain ⟨Ao37, co37, eo37⟩ := Kd.R_slice HO226.out
   (first | subst eo37 | (injection eo37 with f1_ f2_ f3_; have f4_ := f1_.symm; have f5_ := f3_.symm; clear f1_ f2_ f3_; subst f4_; subst f5_))
   obtain ⟨Ao38, co38, eo38⟩ := Kd.R_slice HO232.out
   (first | subst eo38 | (injection eo38 with f1_ f2_ f3_; have f4_ := f1_.symm; have f5_ := f3_.symm; clear f1_ f2_ f3_; subst f4_; subst f5_))
   refine hK.out _ _ ⟨cI BK219.out 0, cI BK219.out 1, cI BK220.out 0, cI BK220.out 1, cI BK220.out 2, cI BK220.out 3⟩ (fun hHeld => ?_)
   clear hK K
   refine norm_ (a' := ?_) ?_ ?_
   rotate_left
   ·show Act.put _ (some 31) _ = _
    simp only [Act.put, sA, sZ, sS, i64_w, i32_w]
    rfl
   refine one_ (i := 4) (N := some 32) #[Y,Y,Y,Y,Y,U,U,U,Y,U,U] rfl rfl (one_of HT_.out (by kernel_rfl)) (by decide) (fun K hK => ?_)
   refine goes_ Try.func15 (by kernel_rfl) rfl #[.agg #[.int .i64 t223, .slice Ao37 t224.length co37], .agg #[.int .i64 t227, .int .i64 t228, .int .i64 t229, .slice Ao38 t230.length co38]] (by rfl) rfl rfl xR ?_
   with_reducible refine (spec_Outside.calls k t223 _ _ t224 t227 t228 t229 _ _ t230 t233 t234 t235 t236 t239 _ ?side1 ?side2 ?side3 ?side4 A21.out).mono ?_
   (case side1 => repeat (first | exact (Kd.R_reads' HO226.out).2.2 | (with_reducible refine Kd.C_alloc ?_ _) | (with_reducible refine Kd.C_drewN ?_ _) | (with_reducible refine Kd.C_drew ?_)))
   (case side2 => exact (Kd.R_reads' HO226.out).2.1)
   (case side3 => repeat (first | exact (Kd.R_reads' HO232.out).2.2 | (with_reducible refine Kd.C_alloc ?_ _) | (with_reducible refine Kd.C_drewN ?_ _) | (with_reducible refine Kd.C_drew ?_)))
   (case side4 => exact (Kd.R_reads' HO232.out).2.1)
   rintro e w39 ⟨v237, rfl, ho0, hb⟩
   refine ⟨_, rfl, ?_⟩
   have n0_ := aM (kB (kr HO226.out) hb)
   have n1_ := aM (Kd.R_elder' (kr HO232.out) (Kd.R_base ho0) hb)
   have n2_ := aM (Kd.R_lower (Kd.R_new' ho0 (Kd.R_lt (kr HO232.out))) (below_size (bl HB.out)))
   have n3_ := aM (bB (g := gb219) (o := .cells #[.int .i64 a0_0, .slice A0_1 l0_1.length c0_1] 44 (0, 0)) (bk BK219.out) hb)
   have n4_ := aM (bB (g := gb220) (o := .cells #[.int .i64 a1_0, .int .i64 a1_1, .int .i64 a1_2, .slice A1_3 l1_3.length c1_3] 45 (0, 0)) (bk BK220.out) hb)
   have n5_ := aM (bB (g := gb240) (o := .cells #[.int .i64 0, .int .i64 0, .int .i64 0, .slice none 0 0] 28 (0, 0)) (bk BK240.out) hb)
   have n6_ := aM (bS (bl HB.out) hb)
   clear HO226 HO232
   clear BK219 BK220
   clear BK240 HB
   have HO226 := n0_
   have HO232 := n1_
   have HO238 := n2_
   have BK219 := n3_
   have BK220 := n4_
   have BK240 := n5_
   have HB := n6_
   clear n0_ n1_ n2_ n3_ n4_ n5_ n6_
   (try clear hb)
   (try clear hb2)
   (try clear hk)
   (try clear hi)
   (try clear ho0)
   refine hK.out _ _ ⟨cI BK219.out 0, cI BK219.out 1, cI BK220.out 0, cI BK220.out 1, cI BK220.out 2, cI BK220.out 3⟩ (fun hHeld => ?_)
   clear hK K
   refine norm_ (a' := ?_) ?_ ?_
   rotate_left
   ·show Act.put _ (some 32) _ = _
    simp only [Act.put, sA, sZ, sS, i64_w, i32_w]
    rfl
   refine pure_ (i := 5) (N := some 27) (v := ?_) (a' := ?_) #[Y,Y,Y,Y,Y,Y,U,U,Y,U,U] rfl rfl (any_of HT_.out (by kernel_rfl)) (fun _ _ _ h => h) (Or.inl ⟨by rfl, ?_⟩) ?_ ?_
   rotate_left
   ·intro w'
    go_simp
    with_reducible rfl
   rotate_left
   ·simp only [Act.put, sA, sZ, sS, i64_w, i32_w]
    rfl
   refine pure_ (i := 6) (N := some 33) (v := ?_) (a' := ?_) #[Y,Y,Y,Y,Y,Y,Y,U,Y,U,U] rfl rfl (any_of HT_.out (by kernel_rfl)) (fun _ _ _ h => h) (Or.inl ⟨by rfl, ?_⟩) ?_ ?_
   rotate_left
   ·intro w'
    go_simp
    with_reducible rfl
   rotate_left
   ·simp only [Act.put, sA, sZ, sS, i64_w, i32_w]
    rfl
   refine pure_ (i := 7) (N := some 34) (v := ?_) (a' := ?_) #[Y,Y,Y,Y,Y,Y,Y,Y,Y,U,U] rfl rfl (any_of HT_.out (by kernel_rfl)) (fun _ _ _ h => h) (Or.inl ⟨by rfl, ?_⟩) ?_ ?_
   rotate_left
   ·intro w'
    go_simp
    with_reducible rfl
   rotate_left
   ·simp only [Act.put, sA, sZ, sS, i64_w, i32_w]
    rfl
   exact norm_ (by simp only [putAll, Act.put, sA, sZ, sS]) (hCont (.slice Ao37 t224.length co37, .slice Ao38 t230.length co38, v237, gb240) _ ⟨hHeld, (kr HO226.out), (kr (Kd.R_mono HO232.out (fun _ hk => hk.2))), (kr (Kd.R_mono HO238.out (fun _ hk => hk.2))), (bk BK219.out), (bk BK220.out), (bk BK240.out), GW240.out, GE240.out, NB219_240.out, NB240_219.out, NB220_240.out, NB240_220.out, (bl HB.out)⟩)
 rintro ⟨v225, v231, v237, gb240⟩ w40 ⟨hS_, h0_, h1_, h2_, h3_, h4_, h5_, h6_, h7_, h8_, h9_, h10_, h11_, h12_⟩
 have n0_ : Aside0 (Kd.R (Kd.int .i64) 3 w40 w.heap.size (fun _ => True) v225 t224) := ⟨h0_⟩
 have n1_ : Aside0 (Kd.R (Kd.int .u8) 5 w40 w.heap.size (fun k_ => some k_ ≠ (v237 : Value).ownBlock) v231 t230) := ⟨h1_⟩
 have n2_ : Aside0 (Kd.R (Kd.int .u8) 5 w40 w.heap.size (fun k_ => some k_ ≠ (v231 : Value).ownBlock) v237 t236) := ⟨h2_⟩
 have n3_ : Aside0 (w40.heap[gb219]? = some (.cells #[.int .i64 a0_0, .slice A0_1 l0_1.length c0_1] 44 (0, 0))) := ⟨h3_⟩
 have n4_ : Aside0 (w40.heap[gb220]? = some (.cells #[.int .i64 a1_0, .int .i64 a1_1, .int .i64 a1_2, .slice A1_3 l1_3.length c1_3] 45 (0, 0))) := ⟨h4_⟩
 have n5_ : Aside0 (w40.heap[gb240]? = some (.cells #[.int .i64 0, .int .i64 0, .int .i64 0, .slice none 0 0] 28 (0, 0))) := ⟨h5_⟩
 have n6_ : Aside0 (w.heap.size ≤ gb240) := ⟨h6_⟩
 have n7_ : Aside0 (w.heap.size ≤ gb240) := ⟨h7_⟩
 have n8_ : Aside0 (gb219 ≠ gb240) := ⟨h8_⟩
 have n9_ : Aside0 (gb240 ≠ gb219) := ⟨h9_⟩
 have n10_ : Aside0 (gb220 ≠ gb240) := ⟨h10_⟩
 have n11_ : Aside0 (gb240 ≠ gb220) := ⟨h11_⟩
 have n12_ : Aside0 (Below w.heap.size w w40) := ⟨h12_⟩
 clear BK219 BK220 HB
 clear h0_ h1_ h2_ h3_ h4_ h5_ h6_ h7_ h8_ h9_ h10_ h11_ h12_
 have HO226 := n0_
 have HO232 := n1_
 have HO238 := n2_
 have BK219 := n3_
 have BK220 := n4_
 have BK240 := n5_
 have GW240 := n6_
 have GE240 := n7_
 have NB219_240 := n8_
 have NB240_219 := n9_
 have NB220_240 := n10_
 have NB240_220 := n11_
 have HB := n12_
 clear n0_ n1_ n2_ n3_ n4_ n5_ n6_ n7_ n8_ n9_ n10_ n11_ n12_
 have hHeld : w40.cell? ⟨gb219, 0, none⟩ = some (.int .i64 a0_0) ∧ w40.cell? ⟨gb219, 1, none⟩ = some (.slice A0_1 l0_1.length c0_1) ∧ w40.cell? ⟨gb220, 0, none⟩ = some (.int .i64 a1_0) ∧ w40.cell? ⟨gb220, 1, none⟩ = some (.int .i64 a1_1) ∧ w40.cell? ⟨gb220, 2, none⟩ = some (.int .i64 a1_2) ∧ w40.cell? ⟨gb220, 3, none⟩ = some (.slice A1_3 l1_3.length c1_3) := hS_
 obtain ⟨Ao44, co44, eo44⟩ := Kd.R_slice HO238.out
 (first | subst eo44 | (injection eo44 with f1_ f2_ f3_; have f4_ := f1_.symm; have f5_ := f3_.symm; clear f1_ f2_ f3_; subst f4_; subst f5_))
 refine norm_ (a' := ?_) ?_ ?_
 rotate_left
 ·simp only [putAll, Act.put, sA, sZ, sS]
  rfl
 refine one_ (i := 9) (N := none) #[Y,Y,Y,Y,Y,Y,Y,Y,Y,Y,U] rfl rfl (one_of HT_.out (by kernel_rfl)) (by decide) (fun K hK => ?_)
 have hs41 := cI BK240.out 0
 have hfs41 := bF BK240.out 0
 have hns41_0 := NB219_240.out
 have hns41_1 := NB220_240.out
 have hms41_0 := NB240_219.out
 have hms41_1 := NB240_220.out
 have hs42 := cI BK240.out 1
 have hfs42 := bF BK240.out 1
 have hns42_0 := NB219_240.out
 have hns42_1 := NB220_240.out
 have hms42_0 := NB240_219.out
 have hms42_1 := NB240_220.out
 have hs43 := cI BK240.out 2
 have hfs43 := bF BK240.out 2
 have hns43_0 := NB219_240.out
 have hns43_1 := NB220_240.out
 have hms43_0 := NB240_219.out
 have hms43_1 := NB240_220.out
 have hs45 := cI BK240.out 3
 have hfs45 := bF BK240.out 3
 have hns45_0 := NB219_240.out
 have hns45_1 := NB220_240.out
 have hms45_0 := NB240_219.out
 have hms45_1 := NB240_220.out
 refine skip_ (w1 := ?_) (by rfl) rfl ?_ ?_
 rotate_left
 ·go_simp
  rfl
 refine hK.out _ _ ⟨((cell_far (p := ⟨gb240, _, none⟩) NB219_240.out _).trans (((cell_far (p := ⟨gb240, _, none⟩) NB219_240.out _).trans (((cell_far (p := ⟨gb240, _, none⟩) NB219_240.out _).trans (((cell_far (p := ⟨gb240, _, none⟩) NB219_240.out _).trans (hHeld.1)))))))), ((cell_far (p := ⟨gb240, _, none⟩) NB219_240.out _).trans (((cell_far (p := ⟨gb240, _, none⟩) NB219_240.out _).trans (((cell_far (p := ⟨gb240, _, none⟩) NB219_240.out _).trans (((cell_far (p := ⟨gb240, _, none⟩) NB219_240.out _).trans (hHeld.2.1)))))))), ((cell_far (p := ⟨gb240, _, none⟩) NB220_240.out _).trans (((cell_far (p := ⟨gb240, _, none⟩) NB220_240.out _).trans (((cell_far (p := ⟨gb240, _, none⟩) NB220_240.out _).trans (((cell_far (p := ⟨gb240, _, none⟩) NB220_240.out _).trans (hHeld.2.2.1)))))))), ((cell_far (p := ⟨gb240, _, none⟩) NB220_240.out _).trans (((cell_far (p := ⟨gb240, _, none⟩) NB220_240.out _).trans (((cell_far (p := ⟨gb240, _, none⟩) NB220_240.out _).trans (((cell_far (p := ⟨gb240, _, none⟩) NB220_240.out _).trans (hHeld.2.2.2.1)))))))), ((cell_far (p := ⟨gb240, _, none⟩) NB220_240.out _).trans (((cell_far (p := ⟨gb240, _, none⟩) NB220_240.out _).trans (((cell_far (p := ⟨gb240, _, none⟩) NB220_240.out _).trans (((cell_far (p := ⟨gb240, _, none⟩) NB220_240.out _).trans (hHeld.2.2.2.2.1)))))))), ((cell_far (p := ⟨gb240, _, none⟩) NB220_240.out _).trans (((cell_far (p := ⟨gb240, _, none⟩) NB220_240.out _).trans (((cell_far (p := ⟨gb240, _, none⟩) NB220_240.out _).trans (((cell_far (p := ⟨gb240, _, none⟩) NB220_240.out _).trans (hHeld.2.2.2.2.2))))))))⟩ (fun hHeld => ?_)
 clear hK K
 refine pure_ (i := 10) (N := some 7) (v := ?_) (a' := ?_) #[Y,Y,Y,Y,Y,Y,Y,Y,Y,Y,Y] rfl rfl (any_of HT_.out (by kernel_rfl)) (fun _ _ _ h => h) (Or.inl ⟨by rfl, ?_⟩) ?_ ?_
 rotate_left
 ·intro w'
  go_simp
  with_reducible rfl
 rotate_left
 ·simp only [Act.put, sA, sZ, sS, i64_w, i32_w]
  rfl
 refine done_ (done_of HT_.out (by kernel_rfl)) ?_
 have hnb46 := NB219_240.out
 have hnc46 := NB240_219.out
 have hcz47_0 := cI BK219.out 0
 have hcz47_1 := cI BK219.out 1
 have hfz47_0 := bF BK219.out 0
 have hfz47_1 := bF BK219.out 1
 go_upto_region 12 with (first | ((with_reducible refine gate_callee (f := 32) rfl ?_); refine goesL_ (some 36) rfl rfl Try.func32 (by kernel_rfl) rfl #[.agg #[.int .i64 a0_0, .slice A0_1 l0_1.length c0_1]] rfl xR ?_; (with_reducible refine (laws_toMember.calls k a0_0 _ _ l0_1 t241 t242 _ ?side1 ?side2 A22.out).mono ?_); (case side1 => exact cB HR0_1.out (bl HB.out)); (case side2 => exact HC0_1.out); rintro e w48 ⟨v243, rfl, ho0, hb⟩; refine ⟨_, rfl, ?_⟩; have n0_ := aM (Kd.R_elder' (kr (Kd.R_mono (kF (p := ⟨gb240, 3, none⟩) (kF (p := ⟨gb240, 2, none⟩) (kF (p := ⟨gb240, 1, none⟩) (kF (p := ⟨gb240, 0, none⟩) (Kd.R_types HO226.out BK240.out (by decide)) (fun _ hk => hk.2) (.int .i64 t233)) (fun _ hk => hk.2) (.int .i64 t234)) (fun _ hk => hk.2) (.int .i64 t235)) (fun _ hk => hk.2) (.slice Ao44 t236.length co44)) (fun _ h_ => h_.1))) (Kd.R_base ho0) hb); have n1_ := aM (kB (kr (Kd.R_mono (kF (p := ⟨gb240, 3, none⟩) (kF (p := ⟨gb240, 2, none⟩) (kF (p := ⟨gb240, 1, none⟩) (kF (p := ⟨gb240, 0, none⟩) (Kd.R_types HO232.out BK240.out (by decide)) (fun _ hk => hk.2) (.int .i64 t233)) (fun _ hk => hk.2) (.int .i64 t234)) (fun _ hk => hk.2) (.int .i64 t235)) (fun _ hk => hk.2) (.slice Ao44 t236.length co44)) (fun _ h_ => h_.1))) hb); have n2_ := aM (kB (kr (Kd.R_mono (kF (p := ⟨gb240, 3, none⟩) (kF (p := ⟨gb240, 2, none⟩) (kF (p := ⟨gb240, 1, none⟩) (kF (p := ⟨gb240, 0, none⟩) (Kd.R_types HO238.out BK240.out (by decide)) (fun _ hk => hk.2) (.int .i64 t233)) (fun _ hk => hk.2) (.int .i64 t234)) (fun _ hk => hk.2) (.int .i64 t235)) (fun _ hk => hk.2) (.slice Ao44 t236.length co44)) (fun _ h_ => h_.1))) hb); have n3_ := aM (Kd.R_lower (Kd.R_new' ho0 (Kd.R_lt (kr (Kd.R_mono (kF (p := ⟨gb240, 3, none⟩) (kF (p := ⟨gb240, 2, none⟩) (kF (p := ⟨gb240, 1, none⟩) (kF (p := ⟨gb240, 0, none⟩) (Kd.R_types HO226.out BK240.out (by decide)) (fun _ hk => hk.2) (.int .i64 t233)) (fun _ hk => hk.2) (.int .i64 t234)) (fun _ hk => hk.2) (.int .i64 t235)) (fun _ hk => hk.2) (.slice Ao44 t236.length co44)) (fun _ h_ => h_.1))))) (below_size (bl HB.out))); have n4_ := aM (bB (g := gb219) (o := .cells #[.int .i64 a0_0, .slice A0_1 l0_1.length c0_1] 44 (0, 0)) (by (with_reducible repeat (first | refine blk_drewN ?_ _ | refine blk_drew ?_ | refine blk_alloc ?_ _)); refine blk_far ?_ NB219_240.out _; (with_reducible repeat (first | refine blk_drewN ?_ _ | refine blk_drew ?_ | refine blk_alloc ?_ _)); refine blk_far ?_ NB219_240.out _; (with_reducible repeat (first | refine blk_drewN ?_ _ | refine blk_drew ?_ | refine blk_alloc ?_ _)); refine blk_far ?_ NB219_240.out _; (with_reducible repeat (first | refine blk_drewN ?_ _ | refine blk_drew ?_ | refine blk_alloc ?_ _)); refine blk_far ?_ NB219_240.out _; (with_reducible repeat (first | refine blk_drewN ?_ _ | refine blk_drew ?_ | refine blk_alloc ?_ _)); exact BK219.out) hb); have n5_ := aM (bB (g := gb220) (o := .cells #[.int .i64 a1_0, .int .i64 a1_1, .int .i64 a1_2, .slice A1_3 l1_3.length c1_3] 45 (0, 0)) (by (with_reducible repeat (first | refine blk_drewN ?_ _ | refine blk_drew ?_ | refine blk_alloc ?_ _)); refine blk_far ?_ NB220_240.out _; (with_reducible repeat (first | refine blk_drewN ?_ _ | refine blk_drew ?_ | refine blk_alloc ?_ _)); refine blk_far ?_ NB220_240.out _; (with_reducible repeat (first | refine blk_drewN ?_ _ | refine blk_drew ?_ | refine blk_alloc ?_ _)); refine blk_far ?_ NB220_240.out _; (with_reducible repeat (first | refine blk_drewN ?_ _ | refine blk_drew ?_ | refine blk_alloc ?_ _)); refine blk_far ?_ NB220_240.out _; (with_reducible repeat (first | refine blk_drewN ?_ _ | refine blk_drew ?_ | refine blk_alloc ?_ _)); exact BK220.out) hb); have n6_ := aM (bB (g := gb240) (o := .cells #[.int .i64 t233, .int .i64 t234, .int .i64 t235, .slice Ao44 t236.length co44] 28 (0, 0)) (by (with_reducible repeat (first | refine blk_drewN ?_ _ | refine blk_drew ?_ | refine blk_alloc ?_ _)); refine blk_put (cs := #[.int .i64 t233, .int .i64 t234, .int .i64 t235, .slice none 0 0]) ?_ 3 _ rfl; (with_reducible repeat (first | refine blk_drewN ?_ _ | refine blk_drew ?_ | refine blk_alloc ?_ _)); refine blk_put (cs := #[.int .i64 t233, .int .i64 t234, .int .i64 0, .slice none 0 0]) ?_ 2 _ rfl; (with_reducible repeat (first | refine blk_drewN ?_ _ | refine blk_drew ?_ | refine blk_alloc ?_ _)); refine blk_put (cs := #[.int .i64 t233, .int .i64 0, .int .i64 0, .slice none 0 0]) ?_ 1 _ rfl; (with_reducible repeat (first | refine blk_drewN ?_ _ | refine blk_drew ?_ | refine blk_alloc ?_ _)); refine blk_put (cs := #[.int .i64 0, .int .i64 0, .int .i64 0, .slice none 0 0]) ?_ 0 _ rfl; (with_reducible repeat (first | refine blk_drewN ?_ _ | refine blk_drew ?_ | refine blk_alloc ?_ _)); exact BK240.out) hb); have n7_ := aM (bS (bl HB.out) hb); clear HO226 HO232; clear HO238 BK219; clear BK220 BK240 HB; have HO226 := n0_; have HO232 := n1_; have HO238 := n2_; have HO244 := n3_; have BK219 := n4_; have BK220 := n5_; have BK240 := n6_; have HB := n7_; clear n0_ n1_ n2_ n3_ n4_ n5_ n6_ n7_; (try clear hb); (try clear hb2); (try clear hk); (try clear hi); (try clear ho0)) | ((with_reducible refine gate_dst (N := 8) rfl ?_); refine box_event ?hg (N := 8) ?hd (cs := #[.int .i64 0, .slice none 0 0]) (t := 26) ?hr ?_; (case hd => rfl); (case hg => rfl); (case hr => first | (go_simp; done) | (go_simp; rfl) | (obtain ⟨A_, c_, e_⟩ := Kd.R_slice HO226.out; subst e_; (first | (go_simp; done) | (go_simp; rfl))) | (obtain ⟨A_, c_, e_⟩ := Kd.S_slice HO226.out; subst e_; (first | (go_simp; done) | (go_simp; rfl))) | (obtain ⟨A_, c_, e_⟩ := Kd.R_slice HO232.out; subst e_; (first | (go_simp; done) | (go_simp; rfl))) | (obtain ⟨A_, c_, e_⟩ := Kd.S_slice HO232.out; subst e_; (first | (go_simp; done) | (go_simp; rfl))) | (obtain ⟨A_, c_, e_⟩ := Kd.R_slice HO238.out; subst e_; (first | (go_simp; done) | (go_simp; rfl))) | (obtain ⟨A_, c_, e_⟩ := Kd.S_slice HO238.out; subst e_; (first | (go_simp; done) | (go_simp; rfl))) | (obtain ⟨A_, c_, e_⟩ := Kd.R_slice HO244.out; subst e_; (first | (go_simp; done) | (go_simp; rfl))) | (obtain ⟨A_, c_, e_⟩ := Kd.S_slice HO244.out; subst e_; (first | (go_simp; done) | (go_simp; rfl))) | (obtain ⟨A_, c_, e_⟩ := Kd.R_slice HO251.out; subst e_; (first | (go_simp; done) | (go_simp; rfl))) | (obtain ⟨A_, c_, e_⟩ := Kd.S_slice HO251.out; subst e_; (first | (go_simp; done) | (go_simp; rfl))) | (obtain ⟨A_, c_, e_⟩ := Kd.R_slice HO258.out; subst e_; (first | (go_simp; done) | (go_simp; rfl))) | (obtain ⟨A_, c_, e_⟩ := Kd.S_slice HO258.out; subst e_; (first | (go_simp; done) | (go_simp; rfl)))); intro gb245 hg w49 hbox hb; have n0_ := aM (kB (kr HO226.out) hb); have n1_ := aM (kB (kr HO232.out) hb); have n2_ := aM (kB (kr HO238.out) hb); have n3_ := aM (kB (kr HO244.out) hb); have n4_ := aM (bB (g := gb219) (o := .cells #[.int .i64 a0_0, .slice A0_1 l0_1.length c0_1] 44 (0, 0)) (bk BK219.out) hb); have n5_ := aM (bB (g := gb220) (o := .cells #[.int .i64 a1_0, .int .i64 a1_1, .int .i64 a1_2, .slice A1_3 l1_3.length c1_3] 45 (0, 0)) (bk BK220.out) hb); have n6_ := aM (bB (g := gb240) (o := .cells #[.int .i64 t233, .int .i64 t234, .int .i64 t235, .slice Ao44 t236.length co44] 28 (0, 0)) (bk BK240.out) hb); have n7_ := aM (bS (bl HB.out) hb); have n8_ := aM (hbox); have n9_ := aM ((by rw [hg]; exact (below_size (bl HB.out)) : w.heap.size ≤ gb245)); have n10_ := aM ((by rw [hg]; exact (below_size (bl HB.out)) : w.heap.size ≤ gb245)); have n11_ := aM ((by rw [hg]; exact Nat.ne_of_lt (blk_lt (g := gb219) (o := .cells #[.int .i64 a0_0, .slice A0_1 l0_1.length c0_1] 44 (0, 0)) (bk BK219.out)) : gb219 ≠ gb245)); have n12_ := aM ((by rw [hg]; exact Nat.ne_of_gt (blk_lt (g := gb219) (o := .cells #[.int .i64 a0_0, .slice A0_1 l0_1.length c0_1] 44 (0, 0)) (bk BK219.out)) : gb245 ≠ gb219)); have n13_ := aM ((by rw [hg]; exact Nat.ne_of_lt (blk_lt (g := gb220) (o := .cells #[.int .i64 a1_0, .int .i64 a1_1, .int .i64 a1_2, .slice A1_3 l1_3.length c1_3] 45 (0, 0)) (bk BK220.out)) : gb220 ≠ gb245)); have n14_ := aM ((by rw [hg]; exact Nat.ne_of_gt (blk_lt (g := gb220) (o := .cells #[.int .i64 a1_0, .int .i64 a1_1, .int .i64 a1_2, .slice A1_3 l1_3.length c1_3] 45 (0, 0)) (bk BK220.out)) : gb245 ≠ gb220)); have n15_ := aM ((by rw [hg]; exact Nat.ne_of_lt (blk_lt (g := gb240) (o := .cells #[.int .i64 t233, .int .i64 t234, .int .i64 t235, .slice Ao44 t236.length co44] 28 (0, 0)) (bk BK240.out)) : gb240 ≠ gb245)); have n16_ := aM ((by rw [hg]; exact Nat.ne_of_gt (blk_lt (g := gb240) (o := .cells #[.int .i64 t233, .int .i64 t234, .int .i64 t235, .slice Ao44 t236.length co44] 28 (0, 0)) (bk BK240.out)) : gb245 ≠ gb240)); clear HO226 HO232; clear HO238 HO244; clear BK219 BK220; clear BK240 HB; have HO226 := n0_; have HO232 := n1_; have HO238 := n2_; have HO244 := n3_; have BK219 := n4_; have BK220 := n5_; have BK240 := n6_; have HB := n7_; have BK245 := n8_; have GW245 := n9_; have GE245 := n10_; have NB219_245 := n11_; have NB245_219 := n12_; have NB220_245 := n13_; have NB245_220 := n14_; have NB240_245 := n15_; have NB245_240 := n16_; clear n0_ n1_ n2_ n3_ n4_ n5_ n6_ n7_ n8_ n9_ n10_ n11_ n12_ n13_ n14_ n15_ n16_; clear hb hbox hg; have hnb50 := NB245_219.out; have hnc50 := NB219_245.out; have hnb51 := NB245_220.out; have hnc51 := NB220_245.out; have hnb52 := NB245_240.out; have hnc52 := NB240_245.out; have hcz53_0 := cI BK245.out 0; have hcz53_1 := cI BK245.out 1; have hfz53_0 := bF BK245.out 0; have hfz53_1 := bF BK245.out 1; obtain ⟨Ao54, co54, eo54⟩ := Kd.R_slice HO244.out; subst eo54; have hnb55 := NB220_240.out; have hnc55 := NB240_220.out; have hcz56_0 := cI BK220.out 0; have hcz56_1 := cI BK220.out 1; have hcz56_2 := cI BK220.out 2; have hcz56_3 := cI BK220.out 3; have hfz56_0 := bF BK220.out 0; have hfz56_1 := bF BK220.out 1; have hfz56_2 := bF BK220.out 2; have hfz56_3 := bF BK220.out 3) | ((with_reducible refine gate_callee (f := 33) rfl ?_); refine goesL_ (some 38) rfl rfl Try.func33 (by kernel_rfl) rfl #[.agg #[.int .i64 a1_0, .int .i64 a1_1, .int .i64 a1_2, .slice A1_3 l1_3.length c1_3]] rfl xR ?_; (with_reducible refine (laws_toFrame.calls k a1_0 a1_1 a1_2 _ _ l1_3 t246 t247 t248 t249 _ ?side1 ?side2 A23.out).mono ?_); (case side1 => exact cB HR1_3.out (bl HB.out)); (case side2 => exact HC1_3.out); rintro e w57 ⟨v250, rfl, ho0, hb⟩; refine ⟨_, rfl, ?_⟩; have n0_ := aM (kB (kr (Kd.R_mono (kF (p := ⟨gb245, 1, none⟩) (kF (p := ⟨gb245, 0, none⟩) (Kd.R_types HO226.out BK245.out (by decide)) (fun _ hk => hk.2) (.int .i64 t241)) (fun _ hk => hk.2) (.slice Ao54 t242.length co54)) (fun _ h_ => h_.1))) hb); have n1_ := aM (Kd.R_elder' (kr (Kd.R_mono (kF (p := ⟨gb245, 1, none⟩) (kF (p := ⟨gb245, 0, none⟩) (Kd.R_types HO232.out BK245.out (by decide)) (fun _ hk => hk.2) (.int .i64 t241)) (fun _ hk => hk.2) (.slice Ao54 t242.length co54)) (fun _ h_ => h_.1))) (Kd.R_base ho0) hb); have n2_ := aM (Kd.R_elder' (kr (Kd.R_mono (kF (p := ⟨gb245, 1, none⟩) (kF (p := ⟨gb245, 0, none⟩) (Kd.R_types HO238.out BK245.out (by decide)) (fun _ hk => hk.2) (.int .i64 t241)) (fun _ hk => hk.2) (.slice Ao54 t242.length co54)) (fun _ h_ => h_.1))) (Kd.R_base ho0) hb); have n3_ := aM (kB (kr (Kd.R_mono (kF (p := ⟨gb245, 1, none⟩) (kF (p := ⟨gb245, 0, none⟩) (Kd.R_types HO244.out BK245.out (by decide)) (fun _ hk => hk.2) (.int .i64 t241)) (fun _ hk => hk.2) (.slice Ao54 t242.length co54)) (fun _ h_ => h_.1))) hb); have n4_ := aM (Kd.R_lower (Kd.R_new' (Kd.R_new' ho0 (Kd.R_lt (kr (Kd.R_mono (kF (p := ⟨gb245, 1, none⟩) (kF (p := ⟨gb245, 0, none⟩) (Kd.R_types HO232.out BK245.out (by decide)) (fun _ hk => hk.2) (.int .i64 t241)) (fun _ hk => hk.2) (.slice Ao54 t242.length co54)) (fun _ h_ => h_.1))))) (Kd.R_lt (kr (Kd.R_mono (kF (p := ⟨gb245, 1, none⟩) (kF (p := ⟨gb245, 0, none⟩) (Kd.R_types HO238.out BK245.out (by decide)) (fun _ hk => hk.2) (.int .i64 t241)) (fun _ hk => hk.2) (.slice Ao54 t242.length co54)) (fun _ h_ => h_.1))))) (below_size (bl HB.out))); have n5_ := aM (bB (g := gb219) (o := .cells #[.int .i64 a0_0, .slice A0_1 l0_1.length c0_1] 44 (0, 0)) (by (with_reducible repeat (first | refine blk_drewN ?_ _ | refine blk_drew ?_ | refine blk_alloc ?_ _)); refine blk_far ?_ NB219_245.out _; (with_reducible repeat (first | refine blk_drewN ?_ _ | refine blk_drew ?_ | refine blk_alloc ?_ _)); refine blk_far ?_ NB219_245.out _; (with_reducible repeat (first | refine blk_drewN ?_ _ | refine blk_drew ?_ | refine blk_alloc ?_ _)); exact BK219.out) hb); have n6_ := aM (bB (g := gb220) (o := .cells #[.int .i64 a1_0, .int .i64 a1_1, .int .i64 a1_2, .slice A1_3 l1_3.length c1_3] 45 (0, 0)) (by (with_reducible repeat (first | refine blk_drewN ?_ _ | refine blk_drew ?_ | refine blk_alloc ?_ _)); refine blk_far ?_ NB220_245.out _; (with_reducible repeat (first | refine blk_drewN ?_ _ | refine blk_drew ?_ | refine blk_alloc ?_ _)); refine blk_far ?_ NB220_245.out _; (with_reducible repeat (first | refine blk_drewN ?_ _ | refine blk_drew ?_ | refine blk_alloc ?_ _)); exact BK220.out) hb); have n7_ := aM (bB (g := gb240) (o := .cells #[.int .i64 t233, .int .i64 t234, .int .i64 t235, .slice Ao44 t236.length co44] 28 (0, 0)) (by (with_reducible repeat (first | refine blk_drewN ?_ _ | refine blk_drew ?_ | refine blk_alloc ?_ _)); refine blk_far ?_ NB240_245.out _; (with_reducible repeat (first | refine blk_drewN ?_ _ | refine blk_drew ?_ | refine blk_alloc ?_ _)); refine blk_far ?_ NB240_245.out _; (with_reducible repeat (first | refine blk_drewN ?_ _ | refine blk_drew ?_ | refine blk_alloc ?_ _)); exact BK240.out) hb); have n8_ := aM (bB (g := gb245) (o := .cells #[.int .i64 t241, .slice Ao54 t242.length co54] 26 (0, 0)) (by (with_reducible repeat (first | refine blk_drewN ?_ _ | refine blk_drew ?_ | refine blk_alloc ?_ _)); refine blk_put (cs := #[.int .i64 t241, .slice none 0 0]) ?_ 1 _ rfl; (with_reducible repeat (first | refine blk_drewN ?_ _ | refine blk_drew ?_ | refine blk_alloc ?_ _)); refine blk_put (cs := #[.int .i64 0, .slice none 0 0]) ?_ 0 _ rfl; (with_reducible repeat (first | refine blk_drewN ?_ _ | refine blk_drew ?_ | refine blk_alloc ?_ _)); exact BK245.out) hb); have n9_ := aM (bS (bl HB.out) hb); clear HO226 HO232; clear HO238 HO244; clear BK219 BK220; clear BK240 BK245 HB; have HO226 := n0_; have HO232 := n1_; have HO238 := n2_; have HO244 := n3_; have HO251 := n4_; have BK219 := n5_; have BK220 := n6_; have BK240 := n7_; have BK245 := n8_; have HB := n9_; clear n0_ n1_ n2_ n3_ n4_ n5_ n6_ n7_ n8_ n9_; (try clear hb); (try clear hb2); (try clear hk); (try clear hi); (try clear ho0)) | ((with_reducible refine gate_dst (N := 9) rfl ?_); refine box_event ?hg (N := 9) ?hd (cs := #[.int .i64 0, .int .i64 0, .int .i64 0, .slice none 0 0]) (t := 28) ?hr ?_; (case hd => rfl); (case hg => rfl); (case hr => first | (go_simp; done) | (go_simp; rfl) | (obtain ⟨A_, c_, e_⟩ := Kd.R_slice HO226.out; subst e_; (first | (go_simp; done) | (go_simp; rfl))) | (obtain ⟨A_, c_, e_⟩ := Kd.S_slice HO226.out; subst e_; (first | (go_simp; done) | (go_simp; rfl))) | (obtain ⟨A_, c_, e_⟩ := Kd.R_slice HO232.out; subst e_; (first | (go_simp; done) | (go_simp; rfl))) | (obtain ⟨A_, c_, e_⟩ := Kd.S_slice HO232.out; subst e_; (first | (go_simp; done) | (go_simp; rfl))) | (obtain ⟨A_, c_, e_⟩ := Kd.R_slice HO238.out; subst e_; (first | (go_simp; done) | (go_simp; rfl))) | (obtain ⟨A_, c_, e_⟩ := Kd.S_slice HO238.out; subst e_; (first | (go_simp; done) | (go_simp; rfl))) | (obtain ⟨A_, c_, e_⟩ := Kd.R_slice HO244.out; subst e_; (first | (go_simp; done) | (go_simp; rfl))) | (obtain ⟨A_, c_, e_⟩ := Kd.S_slice HO244.out; subst e_; (first | (go_simp; done) | (go_simp; rfl))) | (obtain ⟨A_, c_, e_⟩ := Kd.R_slice HO251.out; subst e_; (first | (go_simp; done) | (go_simp; rfl))) | (obtain ⟨A_, c_, e_⟩ := Kd.S_slice HO251.out; subst e_; (first | (go_simp; done) | (go_simp; rfl))) | (obtain ⟨A_, c_, e_⟩ := Kd.R_slice HO258.out; subst e_; (first | (go_simp; done) | (go_simp; rfl))) | (obtain ⟨A_, c_, e_⟩ := Kd.S_slice HO258.out; subst e_; (first | (go_simp; done) | (go_simp; rfl)))); intro gb252 hg w58 hbox hb; have n0_ := aM (kB (kr HO226.out) hb); have n1_ := aM (kB (kr HO232.out) hb); have n2_ := aM (kB (kr HO238.out) hb); have n3_ := aM (kB (kr HO244.out) hb); have n4_ := aM (kB (kr HO251.out) hb); have n5_ := aM (bB (g := gb219) (o := .cells #[.int .i64 a0_0, .slice A0_1 l0_1.length c0_1] 44 (0, 0)) (bk BK219.out) hb); have n6_ := aM (bB (g := gb220) (o := .cells #[.int .i64 a1_0, .int .i64 a1_1, .int .i64 a1_2, .slice A1_3 l1_3.length c1_3] 45 (0, 0)) (bk BK220.out) hb); have n7_ := aM (bB (g := gb240) (o := .cells #[.int .i64 t233, .int .i64 t234, .int .i64 t235, .slice Ao44 t236.length co44] 28 (0, 0)) (bk BK240.out) hb); have n8_ := aM (bB (g := gb245) (o := .cells #[.int .i64 t241, .slice Ao54 t242.length co54] 26 (0, 0)) (bk BK245.out) hb); have n9_ := aM (bS (bl HB.out) hb); have n10_ := aM (hbox); have n11_ := aM ((by rw [hg]; exact (below_size (bl HB.out)) : w.heap.size ≤ gb252)); have n12_ := aM ((by rw [hg]; exact (below_size (bl HB.out)) : w.heap.size ≤ gb252)); have n13_ := aM ((by rw [hg]; exact Nat.ne_of_lt (blk_lt (g := gb219) (o := .cells #[.int .i64 a0_0, .slice A0_1 l0_1.length c0_1] 44 (0, 0)) (bk BK219.out)) : gb219 ≠ gb252)); have n14_ := aM ((by rw [hg]; exact Nat.ne_of_gt (blk_lt (g := gb219) (o := .cells #[.int .i64 a0_0, .slice A0_1 l0_1.length c0_1] 44 (0, 0)) (bk BK219.out)) : gb252 ≠ gb219)); have n15_ := aM ((by rw [hg]; exact Nat.ne_of_lt (blk_lt (g := gb220) (o := .cells #[.int .i64 a1_0, .int .i64 a1_1, .int .i64 a1_2, .slice A1_3 l1_3.length c1_3] 45 (0, 0)) (bk BK220.out)) : gb220 ≠ gb252)); have n16_ := aM ((by rw [hg]; exact Nat.ne_of_gt (blk_lt (g := gb220) (o := .cells #[.int .i64 a1_0, .int .i64 a1_1, .int .i64 a1_2, .slice A1_3 l1_3.length c1_3] 45 (0, 0)) (bk BK220.out)) : gb252 ≠ gb220)); have n17_ := aM ((by rw [hg]; exact Nat.ne_of_lt (blk_lt (g := gb240) (o := .cells #[.int .i64 t233, .int .i64 t234, .int .i64 t235, .slice Ao44 t236.length co44] 28 (0, 0)) (bk BK240.out)) : gb240 ≠ gb252)); have n18_ := aM ((by rw [hg]; exact Nat.ne_of_gt (blk_lt (g := gb240) (o := .cells #[.int .i64 t233, .int .i64 t234, .int .i64 t235, .slice Ao44 t236.length co44] 28 (0, 0)) (bk BK240.out)) : gb252 ≠ gb240)); have n19_ := aM ((by rw [hg]; exact Nat.ne_of_lt (blk_lt (g := gb245) (o := .cells #[.int .i64 t241, .slice Ao54 t242.length co54] 26 (0, 0)) (bk BK245.out)) : gb245 ≠ gb252)); have n20_ := aM ((by rw [hg]; exact Nat.ne_of_gt (blk_lt (g := gb245) (o := .cells #[.int .i64 t241, .slice Ao54 t242.length co54] 26 (0, 0)) (bk BK245.out)) : gb252 ≠ gb245)); clear HO226 HO232; clear HO238 HO244; clear HO251 BK219; clear BK220 BK240; clear BK245 HB; have HO226 := n0_; have HO232 := n1_; have HO238 := n2_; have HO244 := n3_; have HO251 := n4_; have BK219 := n5_; have BK220 := n6_; have BK240 := n7_; have BK245 := n8_; have HB := n9_; have BK252 := n10_; have GW252 := n11_; have GE252 := n12_; have NB219_252 := n13_; have NB252_219 := n14_; have NB220_252 := n15_; have NB252_220 := n16_; have NB240_252 := n17_; have NB252_240 := n18_; have NB245_252 := n19_; have NB252_245 := n20_; clear n0_ n1_ n2_ n3_ n4_ n5_ n6_ n7_ n8_ n9_ n10_ n11_ n12_ n13_ n14_ n15_ n16_ n17_ n18_ n19_ n20_; clear hb hbox hg; have hnb59 := NB252_219.out; have hnc59 := NB219_252.out; have hnb60 := NB252_220.out; have hnc60 := NB220_252.out; have hnb61 := NB252_240.out; have hnc61 := NB240_252.out; have hnb62 := NB252_245.out; have hnc62 := NB245_252.out; have hcz63_0 := cI BK252.out 0; have hcz63_1 := cI BK252.out 1; have hcz63_2 := cI BK252.out 2; have hcz63_3 := cI BK252.out 3; have hfz63_0 := bF BK252.out 0; have hfz63_1 := bF BK252.out 1; have hfz63_2 := bF BK252.out 2; have hfz63_3 := bF BK252.out 3; obtain ⟨Ao64, co64, eo64⟩ := Kd.R_slice HO251.out; subst eo64; have hcz65_0 := cI BK245.out 0; have hcz65_1 := cI BK245.out 1; have hfz65_0 := bF BK245.out 0; have hfz65_1 := bF BK245.out 1) | ((with_reducible refine gate_callee (f := 14) rfl ?_); refine goesL_ (some 42) rfl rfl Try.func14 (by kernel_rfl) rfl #[.agg #[.int .i64 t241, .slice Ao54 t242.length co54], .agg #[.int .i64 t246, .int .i64 t247, .int .i64 t248, .slice Ao64 t249.length co64]] rfl xR ?_; (with_reducible refine (impl_Outside.calls k t241 _ _ t242 t246 t247 t248 _ _ t249 t253 t254 t255 t256 t259 _ ?side1 ?side2 ?side3 ?side4 A24.out).mono ?_); (case side1 => refine (Kd.R_reads' (e := 3) (base := w.heap.size) (ok := fun k_ => (True ∧ some k_ ≠ (v225 : Value).ownBlock)) (n := t242.length) (c := co54) ?_).2.2; exact (kr (Kd.R_mono (kF (p := ⟨gb252, 3, none⟩) (kF (p := ⟨gb252, 2, none⟩) (kF (p := ⟨gb252, 1, none⟩) (kF (p := ⟨gb252, 0, none⟩) (Kd.R_types HO244.out BK252.out (by decide)) (fun _ hk => hk.2) (.int .i64 t246)) (fun _ hk => hk.2) (.int .i64 t247)) (fun _ hk => hk.2) (.int .i64 t248)) (fun _ hk => hk.2) (.slice Ao64 t249.length co64)) (fun _ h_ => h_.1)))); (case side2 => exact (Kd.R_reads' HO244.out).2.1); (case side3 => refine (Kd.R_reads' (e := 5) (base := w.heap.size) (ok := fun k_ => ((True ∧ some k_ ≠ (v231 : Value).ownBlock) ∧ some k_ ≠ (.slice Ao44 t236.length co44 : Value).ownBlock)) (n := t249.length) (c := co64) ?_).2.2; exact (kr (Kd.R_mono (kF (p := ⟨gb252, 3, none⟩) (kF (p := ⟨gb252, 2, none⟩) (kF (p := ⟨gb252, 1, none⟩) (kF (p := ⟨gb252, 0, none⟩) (Kd.R_types HO251.out BK252.out (by decide)) (fun _ hk => hk.2) (.int .i64 t246)) (fun _ hk => hk.2) (.int .i64 t247)) (fun _ hk => hk.2) (.int .i64 t248)) (fun _ hk => hk.2) (.slice Ao64 t249.length co64)) (fun _ h_ => h_.1)))); (case side4 => exact (Kd.R_reads' HO251.out).2.1); rintro e w66 ⟨v257, rfl, ho0, hb⟩; refine ⟨_, rfl, ?_⟩; have n0_ := aM (kB (kr (Kd.R_mono (kF (p := ⟨gb252, 3, none⟩) (kF (p := ⟨gb252, 2, none⟩) (kF (p := ⟨gb252, 1, none⟩) (kF (p := ⟨gb252, 0, none⟩) (Kd.R_types HO226.out BK252.out (by decide)) (fun _ hk => hk.2) (.int .i64 t246)) (fun _ hk => hk.2) (.int .i64 t247)) (fun _ hk => hk.2) (.int .i64 t248)) (fun _ hk => hk.2) (.slice Ao64 t249.length co64)) (fun _ h_ => h_.1))) hb); have n1_ := aM (Kd.R_elder' (kr (Kd.R_mono (kF (p := ⟨gb252, 3, none⟩) (kF (p := ⟨gb252, 2, none⟩) (kF (p := ⟨gb252, 1, none⟩) (kF (p := ⟨gb252, 0, none⟩) (Kd.R_types HO232.out BK252.out (by decide)) (fun _ hk => hk.2) (.int .i64 t246)) (fun _ hk => hk.2) (.int .i64 t247)) (fun _ hk => hk.2) (.int .i64 t248)) (fun _ hk => hk.2) (.slice Ao64 t249.length co64)) (fun _ h_ => h_.1))) (Kd.R_base ho0) hb); have n2_ := aM (Kd.R_elder' (kr (Kd.R_mono (kF (p := ⟨gb252, 3, none⟩) (kF (p := ⟨gb252, 2, none⟩) (kF (p := ⟨gb252, 1, none⟩) (kF (p := ⟨gb252, 0, none⟩) (Kd.R_types HO238.out BK252.out (by decide)) (fun _ hk => hk.2) (.int .i64 t246)) (fun _ hk => hk.2) (.int .i64 t247)) (fun _ hk => hk.2) (.int .i64 t248)) (fun _ hk => hk.2) (.slice Ao64 t249.length co64)) (fun _ h_ => h_.1))) (Kd.R_base ho0) hb); have n3_ := aM (kB (kr (Kd.R_mono (kF (p := ⟨gb252, 3, none⟩) (kF (p := ⟨gb252, 2, none⟩) (kF (p := ⟨gb252, 1, none⟩) (kF (p := ⟨gb252, 0, none⟩) (Kd.R_types HO244.out BK252.out (by decide)) (fun _ hk => hk.2) (.int .i64 t246)) (fun _ hk => hk.2) (.int .i64 t247)) (fun _ hk => hk.2) (.int .i64 t248)) (fun _ hk => hk.2) (.slice Ao64 t249.length co64)) (fun _ h_ => h_.1))) hb); have n4_ := aM (Kd.R_elder' (kr (Kd.R_mono (kF (p := ⟨gb252, 3, none⟩) (kF (p := ⟨gb252, 2, none⟩) (kF (p := ⟨gb252, 1, none⟩) (kF (p := ⟨gb252, 0, none⟩) (Kd.R_types HO251.out BK252.out (by decide)) (fun _ hk => hk.2) (.int .i64 t246)) (fun _ hk => hk.2) (.int .i64 t247)) (fun _ hk => hk.2) (.int .i64 t248)) (fun _ hk => hk.2) (.slice Ao64 t249.length co64)) (fun _ h_ => h_.1))) (Kd.R_base ho0) hb); have n5_ := aM (Kd.R_lower (Kd.R_new' (Kd.R_new' (Kd.R_new' ho0 (Kd.R_lt (kr (Kd.R_mono (kF (p := ⟨gb252, 3, none⟩) (kF (p := ⟨gb252, 2, none⟩) (kF (p := ⟨gb252, 1, none⟩) (kF (p := ⟨gb252, 0, none⟩) (Kd.R_types HO232.out BK252.out (by decide)) (fun _ hk => hk.2) (.int .i64 t246)) (fun _ hk => hk.2) (.int .i64 t247)) (fun _ hk => hk.2) (.int .i64 t248)) (fun _ hk => hk.2) (.slice Ao64 t249.length co64)) (fun _ h_ => h_.1))))) (Kd.R_lt (kr (Kd.R_mono (kF (p := ⟨gb252, 3, none⟩) (kF (p := ⟨gb252, 2, none⟩) (kF (p := ⟨gb252, 1, none⟩) (kF (p := ⟨gb252, 0, none⟩) (Kd.R_types HO238.out BK252.out (by decide)) (fun _ hk => hk.2) (.int .i64 t246)) (fun _ hk => hk.2) (.int .i64 t247)) (fun _ hk => hk.2) (.int .i64 t248)) (fun _ hk => hk.2) (.slice Ao64 t249.length co64)) (fun _ h_ => h_.1))))) (Kd.R_lt (kr (Kd.R_mono (kF (p := ⟨gb252, 3, none⟩) (kF (p := ⟨gb252, 2, none⟩) (kF (p := ⟨gb252, 1, none⟩) (kF (p := ⟨gb252, 0, none⟩) (Kd.R_types HO251.out BK252.out (by decide)) (fun _ hk => hk.2) (.int .i64 t246)) (fun _ hk => hk.2) (.int .i64 t247)) (fun _ hk => hk.2) (.int .i64 t248)) (fun _ hk => hk.2) (.slice Ao64 t249.length co64)) (fun _ h_ => h_.1))))) (below_size (bl HB.out))); have n6_ := aM (bB (g := gb219) (o := .cells #[.int .i64 a0_0, .slice A0_1 l0_1.length c0_1] 44 (0, 0)) (by (with_reducible repeat (first | refine blk_drewN ?_ _ | refine blk_drew ?_ | refine blk_alloc ?_ _)); refine blk_far ?_ NB219_252.out _; (with_reducible repeat (first | refine blk_drewN ?_ _ | refine blk_drew ?_ | refine blk_alloc ?_ _)); refine blk_far ?_ NB219_252.out _; (with_reducible repeat (first | refine blk_drewN ?_ _ | refine blk_drew ?_ | refine blk_alloc ?_ _)); refine blk_far ?_ NB219_252.out _; (with_reducible repeat (first | refine blk_drewN ?_ _ | refine blk_drew ?_ | refine blk_alloc ?_ _)); refine blk_far ?_ NB219_252.out _; (with_reducible repeat (first | refine blk_drewN ?_ _ | refine blk_drew ?_ | refine blk_alloc ?_ _)); exact BK219.out) hb); have n7_ := aM (bB (g := gb220) (o := .cells #[.int .i64 a1_0, .int .i64 a1_1, .int .i64 a1_2, .slice A1_3 l1_3.length c1_3] 45 (0, 0)) (by (with_reducible repeat (first | refine blk_drewN ?_ _ | refine blk_drew ?_ | refine blk_alloc ?_ _)); refine blk_far ?_ NB220_252.out _; (with_reducible repeat (first | refine blk_drewN ?_ _ | refine blk_drew ?_ | refine blk_alloc ?_ _)); refine blk_far ?_ NB220_252.out _; (with_reducible repeat (first | refine blk_drewN ?_ _ | refine blk_drew ?_ | refine blk_alloc ?_ _)); refine blk_far ?_ NB220_252.out _; (with_reducible repeat (first | refine blk_drewN ?_ _ | refine blk_drew ?_ | refine blk_alloc ?_ _)); refine blk_far ?_ NB220_252.out _; (with_reducible repeat (first | refine blk_drewN ?_ _ | refine blk_drew ?_ | refine blk_alloc ?_ _)); exact BK220.out) hb); have n8_ := aM (bB (g := gb240) (o := .cells #[.int .i64 t233, .int .i64 t234, .int .i64 t235, .slice Ao44 t236.length co44] 28 (0, 0)) (by (with_reducible repeat (first | refine blk_drewN ?_ _ | refine blk_drew ?_ | refine blk_alloc ?_ _)); refine blk_far ?_ NB240_252.out _; (with_reducible repeat (first | refine blk_drewN ?_ _ | refine blk_drew ?_ | refine blk_alloc ?_ _)); refine blk_far ?_ NB240_252.out _; (with_reducible repeat (first | refine blk_drewN ?_ _ | refine blk_drew ?_ | refine blk_alloc ?_ _)); refine blk_far ?_ NB240_252.out _; (with_reducible repeat (first | refine blk_drewN ?_ _ | refine blk_drew ?_ | refine blk_alloc ?_ _)); refine blk_far ?_ NB240_252.out _; (with_reducible repeat (first | refine blk_drewN ?_ _ | refine blk_drew ?_ | refine blk_alloc ?_ _)); exact BK240.out) hb); have n9_ := aM (bB (g := gb245) (o := .cells #[.int .i64 t241, .slice Ao54 t242.length co54] 26 (0, 0)) (by (with_reducible repeat (first | refine blk_drewN ?_ _ | refine blk_drew ?_ | refine blk_alloc ?_ _)); refine blk_far ?_ NB245_252.out _; (with_reducible repeat (first | refine blk_drewN ?_ _ | refine blk_drew ?_ | refine blk_alloc ?_ _)); refine blk_far ?_ NB245_252.out _; (with_reducible repeat (first | refine blk_drewN ?_ _ | refine blk_drew ?_ | refine blk_alloc ?_ _)); refine blk_far ?_ NB245_252.out _; (with_reducible repeat (first | refine blk_drewN ?_ _ | refine blk_drew ?_ | refine blk_alloc ?_ _)); refine blk_far ?_ NB245_252.out _; (with_reducible repeat (first | refine blk_drewN ?_ _ | refine blk_drew ?_ | refine blk_alloc ?_ _)); exact BK245.out) hb); have n10_ := aM (bB (g := gb252) (o := .cells #[.int .i64 t246, .int .i64 t247, .int .i64 t248, .slice Ao64 t249.length co64] 28 (0, 0)) (by (with_reducible repeat (first | refine blk_drewN ?_ _ | refine blk_drew ?_ | refine blk_alloc ?_ _)); refine blk_put (cs := #[.int .i64 t246, .int .i64 t247, .int .i64 t248, .slice none 0 0]) ?_ 3 _ rfl; (with_reducible repeat (first | refine blk_drewN ?_ _ | refine blk_drew ?_ | refine blk_alloc ?_ _)); refine blk_put (cs := #[.int .i64 t246, .int .i64 t247, .int .i64 0, .slice none 0 0]) ?_ 2 _ rfl; (with_reducible repeat (first | refine blk_drewN ?_ _ | refine blk_drew ?_ | refine blk_alloc ?_ _)); refine blk_put (cs := #[.int .i64 t246, .int .i64 0, .int .i64 0, .slice none 0 0]) ?_ 1 _ rfl; (with_reducible repeat (first | refine blk_drewN ?_ _ | refine blk_drew ?_ | refine blk_alloc ?_ _)); refine blk_put (cs := #[.int .i64 0, .int .i64 0, .int .i64 0, .slice none 0 0]) ?_ 0 _ rfl; (with_reducible repeat (first | refine blk_drewN ?_ _ | refine blk_drew ?_ | refine blk_alloc ?_ _)); exact BK252.out) hb); have n11_ := aM (bS (bl HB.out) hb); clear HO226 HO232; clear HO238 HO244; clear HO251 BK219; clear BK220 BK240; clear BK245 BK252 HB; have HO226 := n0_; have HO232 := n1_; have HO238 := n2_; have HO244 := n3_; have HO251 := n4_; have HO258 := n5_; have BK219 := n6_; have BK220 := n7_; have BK240 := n8_; have BK245 := n9_; have BK252 := n10_; have HB := n11_; clear n0_ n1_ n2_ n3_ n4_ n5_ n6_ n7_ n8_ n9_ n10_ n11_; (try clear hb); (try clear hb2); (try clear hk); (try clear hi); (try clear ho0)) | ((with_reducible refine gate_dst (N := 10) rfl ?_); refine box_event ?hg (N := 10) ?hd (cs := #[.int .i64 0, .int .i64 0, .int .i64 0, .slice none 0 0]) (t := 28) ?hr ?_; (case hd => rfl); (case hg => rfl); (case hr => first | (go_simp; done) | (go_simp; rfl) | (obtain ⟨A_, c_, e_⟩ := Kd.R_slice HO226.out; subst e_; (first | (go_simp; done) | (go_simp; rfl))) | (obtain ⟨A_, c_, e_⟩ := Kd.S_slice HO226.out; subst e_; (first | (go_simp; done) | (go_simp; rfl))) | (obtain ⟨A_, c_, e_⟩ := Kd.R_slice HO232.out; subst e_; (first | (go_simp; done) | (go_simp; rfl))) | (obtain ⟨A_, c_, e_⟩ := Kd.S_slice HO232.out; subst e_; (first | (go_simp; done) | (go_simp; rfl))) | (obtain ⟨A_, c_, e_⟩ := Kd.R_slice HO238.out; subst e_; (first | (go_simp; done) | (go_simp; rfl))) | (obtain ⟨A_, c_, e_⟩ := Kd.S_slice HO238.out; subst e_; (first | (go_simp; done) | (go_simp; rfl))) | (obtain ⟨A_, c_, e_⟩ := Kd.R_slice HO244.out; subst e_; (first | (go_simp; done) | (go_simp; rfl))) | (obtain ⟨A_, c_, e_⟩ := Kd.S_slice HO244.out; subst e_; (first | (go_simp; done) | (go_simp; rfl))) | (obtain ⟨A_, c_, e_⟩ := Kd.R_slice HO251.out; subst e_; (first | (go_simp; done) | (go_simp; rfl))) | (obtain ⟨A_, c_, e_⟩ := Kd.S_slice HO251.out; subst e_; (first | (go_simp; done) | (go_simp; rfl))) | (obtain ⟨A_, c_, e_⟩ := Kd.R_slice HO258.out; subst e_; (first | (go_simp; done) | (go_simp; rfl))) | (obtain ⟨A_, c_, e_⟩ := Kd.S_slice HO258.out; subst e_; (first | (go_simp; done) | (go_simp; rfl)))); intro gb260 hg w67 hbox hb; have n0_ := aM (kB (kr HO226.out) hb); have n1_ := aM (kB (kr HO232.out) hb); have n2_ := aM (kB (kr HO238.out) hb); have n3_ := aM (kB (kr HO244.out) hb); have n4_ := aM (kB (kr HO251.out) hb); have n5_ := aM (kB (kr HO258.out) hb); have n6_ := aM (bB (g := gb219) (o := .cells #[.int .i64 a0_0, .slice A0_1 l0_1.length c0_1] 44 (0, 0)) (bk BK219.out) hb); have n7_ := aM (bB (g := gb220) (o := .cells #[.int .i64 a1_0, .int .i64 a1_1, .int .i64 a1_2, .slice A1_3 l1_3.length c1_3] 45 (0, 0)) (bk BK220.out) hb); have n8_ := aM (bB (g := gb240) (o := .cells #[.int .i64 t233, .int .i64 t234, .int .i64 t235, .slice Ao44 t236.length co44] 28 (0, 0)) (bk BK240.out) hb); have n9_ := aM (bB (g := gb245) (o := .cells #[.int .i64 t241, .slice Ao54 t242.length co54] 26 (0, 0)) (bk BK245.out) hb); have n10_ := aM (bB (g := gb252) (o := .cells #[.int .i64 t246, .int .i64 t247, .int .i64 t248, .slice Ao64 t249.length co64] 28 (0, 0)) (bk BK252.out) hb); have n11_ := aM (bS (bl HB.out) hb); have n12_ := aM (hbox); have n13_ := aM ((by rw [hg]; exact (below_size (bl HB.out)) : w.heap.size ≤ gb260)); have n14_ := aM ((by rw [hg]; exact (below_size (bl HB.out)) : w.heap.size ≤ gb260)); have n15_ := aM ((by rw [hg]; exact Nat.ne_of_lt (blk_lt (g := gb219) (o := .cells #[.int .i64 a0_0, .slice A0_1 l0_1.length c0_1] 44 (0, 0)) (bk BK219.out)) : gb219 ≠ gb260)); have n16_ := aM ((by rw [hg]; exact Nat.ne_of_gt (blk_lt (g := gb219) (o := .cells #[.int .i64 a0_0, .slice A0_1 l0_1.length c0_1] 44 (0, 0)) (bk BK219.out)) : gb260 ≠ gb219)); have n17_ := aM ((by rw [hg]; exact Nat.ne_of_lt (blk_lt (g := gb220) (o := .cells #[.int .i64 a1_0, .int .i64 a1_1, .int .i64 a1_2, .slice A1_3 l1_3.length c1_3] 45 (0, 0)) (bk BK220.out)) : gb220 ≠ gb260)); have n18_ := aM ((by rw [hg]; exact Nat.ne_of_gt (blk_lt (g := gb220) (o := .cells #[.int .i64 a1_0, .int .i64 a1_1, .int .i64 a1_2, .slice A1_3 l1_3.length c1_3] 45 (0, 0)) (bk BK220.out)) : gb260 ≠ gb220)); have n19_ := aM ((by rw [hg]; exact Nat.ne_of_lt (blk_lt (g := gb240) (o := .cells #[.int .i64 t233, .int .i64 t234, .int .i64 t235, .slice Ao44 t236.length co44] 28 (0, 0)) (bk BK240.out)) : gb240 ≠ gb260)); have n20_ := aM ((by rw [hg]; exact Nat.ne_of_gt (blk_lt (g := gb240) (o := .cells #[.int .i64 t233, .int .i64 t234, .int .i64 t235, .slice Ao44 t236.length co44] 28 (0, 0)) (bk BK240.out)) : gb260 ≠ gb240)); have n21_ := aM ((by rw [hg]; exact Nat.ne_of_lt (blk_lt (g := gb245) (o := .cells #[.int .i64 t241, .slice Ao54 t242.length co54] 26 (0, 0)) (bk BK245.out)) : gb245 ≠ gb260)); have n22_ := aM ((by rw [hg]; exact Nat.ne_of_gt (blk_lt (g := gb245) (o := .cells #[.int .i64 t241, .slice Ao54 t242.length co54] 26 (0, 0)) (bk BK245.out)) : gb260 ≠ gb245)); have n23_ := aM ((by rw [hg]; exact Nat.ne_of_lt (blk_lt (g := gb252) (o := .cells #[.int .i64 t246, .int .i64 t247, .int .i64 t248, .slice Ao64 t249.length co64] 28 (0, 0)) (bk BK252.out)) : gb252 ≠ gb260)); have n24_ := aM ((by rw [hg]; exact Nat.ne_of_gt (blk_lt (g := gb252) (o := .cells #[.int .i64 t246, .int .i64 t247, .int .i64 t248, .slice Ao64 t249.length co64] 28 (0, 0)) (bk BK252.out)) : gb260 ≠ gb252)); clear HO226 HO232; clear HO238 HO244; clear HO251 HO258; clear BK219 BK220; clear BK240 BK245; clear BK252 HB; have HO226 := n0_; have HO232 := n1_; have HO238 := n2_; have HO244 := n3_; have HO251 := n4_; have HO258 := n5_; have BK219 := n6_; have BK220 := n7_; have BK240 := n8_; have BK245 := n9_; have BK252 := n10_; have HB := n11_; have BK260 := n12_; have GW260 := n13_; have GE260 := n14_; have NB219_260 := n15_; have NB260_219 := n16_; have NB220_260 := n17_; have NB260_220 := n18_; have NB240_260 := n19_; have NB260_240 := n20_; have NB245_260 := n21_; have NB260_245 := n22_; have NB252_260 := n23_; have NB260_252 := n24_; clear n0_ n1_ n2_ n3_ n4_ n5_ n6_ n7_ n8_ n9_ n10_ n11_ n12_ n13_ n14_ n15_ n16_ n17_ n18_ n19_ n20_ n21_ n22_ n23_ n24_; clear hb hbox hg; have hnb68 := NB260_219.out; have hnc68 := NB219_260.out; have hnb69 := NB260_220.out; have hnc69 := NB220_260.out; have hnb70 := NB260_240.out; have hnc70 := NB240_260.out; have hnb71 := NB260_245.out; have hnc71 := NB245_260.out; have hnb72 := NB260_252.out; have hnc72 := NB252_260.out; have hcz73_0 := cI BK260.out 0; have hcz73_1 := cI BK260.out 1; have hcz73_2 := cI BK260.out 2; have hcz73_3 := cI BK260.out 3; have hfz73_0 := bF BK260.out 0; have hfz73_1 := bF BK260.out 1; have hfz73_2 := bF BK260.out 2; have hfz73_3 := bF BK260.out 3; obtain ⟨Ao74, co74, eo74⟩ := Kd.R_slice HO258.out; subst eo74))
 (try simp only [Act.put, sA, sZ, sS])
 go_cut [53] (fun v53 wc => ∃ (kq : Nat) (x53_24 : Bool), v53 = .bool x53_24 ∧ Aside0 (laws_FnExactOutside.j0 kq t239 t259 x53_24 a0_0 l0_1 a1_0 a1_1 a1_2 l1_3 t233 t234 t235 t236 t241 t242 t246 t247 t248 t249 t253 t254 t255 t256 = some true) ∧ Aside0 (kq ≤ k) ∧ Aside0 (Kd.R (Kd.int .u8) 5 wc w.heap.size (fun k_ => some k_ ≠ ((.slice Ao64 t249.length co64) : Value).ownBlock ∧ some k_ ≠ ((.slice Ao74 t256.length co74) : Value).ownBlock) (.slice Ao44 t236.length co44) t236) ∧ Aside0 (Kd.R (Kd.int .i64) 3 wc w.heap.size (fun _ => True) (.slice Ao54 t242.length co54) t242) ∧ Aside0 (Kd.R (Kd.int .u8) 5 wc w.heap.size (fun k_ => some k_ ≠ ((.slice Ao44 t236.length co44) : Value).ownBlock ∧ some k_ ≠ ((.slice Ao74 t256.length co74) : Value).ownBlock) (.slice Ao64 t249.length co64) t249) ∧ Aside0 (Kd.R (Kd.int .u8) 5 wc w.heap.size (fun k_ => some k_ ≠ ((.slice Ao44 t236.length co44) : Value).ownBlock ∧ some k_ ≠ ((.slice Ao64 t249.length co64) : Value).ownBlock) (.slice Ao74 t256.length co74) t256) ∧ Aside0 (wc.heap[gb219]? = some (.cells #[.int .i64 a0_0, (.slice A0_1 l0_1.length c0_1)] 44 (0, 0))) ∧ Aside0 (wc.heap[gb220]? = some (.cells #[.int .i64 a1_0, .int .i64 a1_1, .int .i64 a1_2, (.slice A1_3 l1_3.length c1_3)] 45 (0, 0))) ∧ Aside0 (wc.heap[gb240]? = some (.cells #[.int .i64 t233, .int .i64 t234, .int .i64 t235, (.slice Ao44 t236.length co44)] 28 (0, 0))) ∧ Aside0 (wc.heap[gb245]? = some (.cells #[.int .i64 t241, (.slice Ao54 t242.length co54)] 26 (0, 0))) ∧ Aside0 (wc.heap[gb252]? = some (.cells #[.int .i64 t246, .int .i64 t247, .int .i64 t248, (.slice Ao64 t249.length co64)] 28 (0, 0))) ∧ Aside0 (wc.heap[gb260]? = some (.cells #[.int .i64 t253, .int .i64 t254, .int .i64 t255, (.slice Ao74 t256.length co74)] 28 (0, 0))) ∧ Aside0 (Below w.heap.size w wc))
 case first =>
  have H := HC25.out
  clear HC25
  replace H := Option.bind_eq_some_iff.mp H
  obtain ⟨t261, A750, H⟩ := H
  replace H : (if t261 = true then (laws_FnExactOutside.j0 k t239 t259 (t259 != t239) a0_0 l0_1 a1_0 a1_1 a1_2 l1_3 t233 t234 t235 t236 t241 t242 t246 t247 t248 t249 t253 t254 t255 t256) else (laws_FnExactOutside.j0 k t239 t259 true a0_0 l0_1 a1_0 a1_1 a1_2 l1_3 t233 t234 t235 t236 t241 t242 t246 t247 t248 t249 t253 t254 t255 t256)) = some true := H
  have A75 := aM A750
  clear A750
  by_cases c76 : t261 = true
  case neg =>
   replace c76 := Bool.eq_false_iff.mpr c76
   subst c76
   have H1 : (laws_FnExactOutside.j0 k t239 t259 true a0_0 l0_1 a1_0 a1_1 a1_2 l1_3 t233 t234 t235 t236 t241 t242 t246 t247 t248 t249 t253 t254 t255 t256) = some true := by first | (rw [if_neg (show ¬ (false = true) by decide)] at H; exact H) | (rw [if_neg (show ¬ (false = true) by decide)] at H)
   clear H
   have H := H1
   clear H1
   exact absurd H (by cases k <;> (simp only [laws_FnExactOutside.j0, if_true]) <;> decide)
  subst c76
  have H1 : (laws_FnExactOutside.j0 k t239 t259 (t259 != t239) a0_0 l0_1 a1_0 a1_1 a1_2 l1_3 t233 t234 t235 t236 t241 t242 t246 t247 t248 t249 t253 t254 t255 t256) = some true := by first | (rw [if_pos rfl] at H; exact H) | (rw [if_pos rfl] at H)
  clear H
  have H := H1
  clear H1
  have H' := aM H
  clear H
  have hnb77 := NB260_219.out
  have hnc77 := NB219_260.out
  have hnb78 := NB260_220.out
  have hnc78 := NB220_260.out
  have hnb79 := NB260_240.out
  have hnc79 := NB240_260.out
  have hnb80 := NB260_245.out
  have hnc80 := NB245_260.out
  have hnb81 := NB260_252.out
  have hnc81 := NB252_260.out
  have hcz82_0 := cI BK260.out 0
  have hcz82_1 := cI BK260.out 1
  have hcz82_2 := cI BK260.out 2
  have hcz82_3 := cI BK260.out 3
  have hfz82_0 := bF BK260.out 0
  have hfz82_1 := bF BK260.out 1
  have hfz82_2 := bF BK260.out 2
  have hfz82_3 := bF BK260.out 3
  have hnb83 := NB240_219.out
  have hnc83 := NB219_240.out
  have hnb84 := NB240_220.out
  have hnc84 := NB220_240.out
  have hnb85 := NB240_245.out
  have hnc85 := NB245_240.out
  have hnb86 := NB240_252.out
  have hnc86 := NB252_240.out
  have hcz87_0 := cI BK240.out 0
  have hcz87_1 := cI BK240.out 1
  have hcz87_2 := cI BK240.out 2
  have hcz87_3 := cI BK240.out 3
  have hfz87_0 := bF BK240.out 0
  have hfz87_1 := bF BK240.out 1
  have hfz87_2 := bF BK240.out 2
  have hfz87_3 := bF BK240.out 3
  go_wp2_with (first | ((with_reducible refine gate_callee (f := 34) rfl ?_); refine goesL_ (some 47) rfl rfl Try.func34 (by kernel_rfl) rfl #[.agg #[.int .i64 t253, .int .i64 t254, .int .i64 t255, .slice Ao74 t256.length co74], .agg #[.int .i64 t233, .int .i64 t234, .int .i64 t235, .slice Ao44 t236.length co44]] rfl xR ?_; (with_reducible refine (laws_eqFrame.calls k t253 t254 t255 _ _ t256 t233 t234 t235 _ _ t236 true _ ?side1 ?side2 ?side3 ?side4 A75.out).mono ?_); (case side1 => refine (Kd.R_reads' (e := 5) (base := w.heap.size) (ok := fun k_ => (((True ∧ some k_ ≠ (v231 : Value).ownBlock) ∧ some k_ ≠ (.slice Ao44 t236.length co44 : Value).ownBlock) ∧ some k_ ≠ (.slice Ao64 t249.length co64 : Value).ownBlock)) (n := t256.length) (c := co74) ?_).2.2; exact (kr (Kd.R_mono (kF (p := ⟨gb260, 3, none⟩) (kF (p := ⟨gb260, 2, none⟩) (kF (p := ⟨gb260, 1, none⟩) (kF (p := ⟨gb260, 0, none⟩) (Kd.R_types HO258.out BK260.out (by decide)) (fun _ hk => hk.2) (.int .i64 t253)) (fun _ hk => hk.2) (.int .i64 t254)) (fun _ hk => hk.2) (.int .i64 t255)) (fun _ hk => hk.2) (.slice Ao74 t256.length co74)) (fun _ h_ => h_.1)))); (case side2 => exact (Kd.R_reads' HO258.out).2.1); (case side3 => refine (Kd.R_reads' (e := 5) (base := w.heap.size) (ok := fun k_ => ((some k_ ≠ (v231 : Value).ownBlock ∧ some k_ ≠ (.slice Ao64 t249.length co64 : Value).ownBlock) ∧ some k_ ≠ (.slice Ao74 t256.length co74 : Value).ownBlock)) (n := t236.length) (c := co44) ?_).2.2; exact (kr (Kd.R_mono (kF (p := ⟨gb260, 3, none⟩) (kF (p := ⟨gb260, 2, none⟩) (kF (p := ⟨gb260, 1, none⟩) (kF (p := ⟨gb260, 0, none⟩) (Kd.R_types HO238.out BK260.out (by decide)) (fun _ hk => hk.2) (.int .i64 t253)) (fun _ hk => hk.2) (.int .i64 t254)) (fun _ hk => hk.2) (.int .i64 t255)) (fun _ hk => hk.2) (.slice Ao74 t256.length co74)) (fun _ h_ => h_.1)))); (case side4 => exact (Kd.R_reads' HO238.out).2.1); rintro e w88 ⟨rfl, hb⟩; refine ⟨_, rfl, ?_⟩; have n0_ := aM (kB (kr (Kd.R_mono (kF (p := ⟨gb260, 3, none⟩) (kF (p := ⟨gb260, 2, none⟩) (kF (p := ⟨gb260, 1, none⟩) (kF (p := ⟨gb260, 0, none⟩) (Kd.R_types HO226.out BK260.out (by decide)) (fun _ hk => hk.2) (.int .i64 t253)) (fun _ hk => hk.2) (.int .i64 t254)) (fun _ hk => hk.2) (.int .i64 t255)) (fun _ hk => hk.2) (.slice Ao74 t256.length co74)) (fun _ h_ => h_.1))) hb); have n1_ := aM (kB (kr (Kd.R_mono (kF (p := ⟨gb260, 3, none⟩) (kF (p := ⟨gb260, 2, none⟩) (kF (p := ⟨gb260, 1, none⟩) (kF (p := ⟨gb260, 0, none⟩) (Kd.R_types HO232.out BK260.out (by decide)) (fun _ hk => hk.2) (.int .i64 t253)) (fun _ hk => hk.2) (.int .i64 t254)) (fun _ hk => hk.2) (.int .i64 t255)) (fun _ hk => hk.2) (.slice Ao74 t256.length co74)) (fun _ h_ => h_.1))) hb); have n2_ := aM (kB (kr (Kd.R_mono (kF (p := ⟨gb260, 3, none⟩) (kF (p := ⟨gb260, 2, none⟩) (kF (p := ⟨gb260, 1, none⟩) (kF (p := ⟨gb260, 0, none⟩) (Kd.R_types HO238.out BK260.out (by decide)) (fun _ hk => hk.2) (.int .i64 t253)) (fun _ hk => hk.2) (.int .i64 t254)) (fun _ hk => hk.2) (.int .i64 t255)) (fun _ hk => hk.2) (.slice Ao74 t256.length co74)) (fun _ h_ => h_.1))) hb); have n3_ := aM (kB (kr (Kd.R_mono (kF (p := ⟨gb260, 3, none⟩) (kF (p := ⟨gb260, 2, none⟩) (kF (p := ⟨gb260, 1, none⟩) (kF (p := ⟨gb260, 0, none⟩) (Kd.R_types HO244.out BK260.out (by decide)) (fun _ hk => hk.2) (.int .i64 t253)) (fun _ hk => hk.2) (.int .i64 t254)) (fun _ hk => hk.2) (.int .i64 t255)) (fun _ hk => hk.2) (.slice Ao74 t256.length co74)) (fun _ h_ => h_.1))) hb); have n4_ := aM (kB (kr (Kd.R_mono (kF (p := ⟨gb260, 3, none⟩) (kF (p := ⟨gb260, 2, none⟩) (kF (p := ⟨gb260, 1, none⟩) (kF (p := ⟨gb260, 0, none⟩) (Kd.R_types HO251.out BK260.out (by decide)) (fun _ hk => hk.2) (.int .i64 t253)) (fun _ hk => hk.2) (.int .i64 t254)) (fun _ hk => hk.2) (.int .i64 t255)) (fun _ hk => hk.2) (.slice Ao74 t256.length co74)) (fun _ h_ => h_.1))) hb); have n5_ := aM (kB (kr (Kd.R_mono (kF (p := ⟨gb260, 3, none⟩) (kF (p := ⟨gb260, 2, none⟩) (kF (p := ⟨gb260, 1, none⟩) (kF (p := ⟨gb260, 0, none⟩) (Kd.R_types HO258.out BK260.out (by decide)) (fun _ hk => hk.2) (.int .i64 t253)) (fun _ hk => hk.2) (.int .i64 t254)) (fun _ hk => hk.2) (.int .i64 t255)) (fun _ hk => hk.2) (.slice Ao74 t256.length co74)) (fun _ h_ => h_.1))) hb); have n6_ := aM (bB (g := gb219) (o := .cells #[.int .i64 a0_0, .slice A0_1 l0_1.length c0_1] 44 (0, 0)) (by (with_reducible repeat (first | refine blk_drewN ?_ _ | refine blk_drew ?_ | refine blk_alloc ?_ _)); refine blk_far ?_ NB219_260.out _; (with_reducible repeat (first | refine blk_drewN ?_ _ | refine blk_drew ?_ | refine blk_alloc ?_ _)); refine blk_far ?_ NB219_260.out _; (with_reducible repeat (first | refine blk_drewN ?_ _ | refine blk_drew ?_ | refine blk_alloc ?_ _)); refine blk_far ?_ NB219_260.out _; (with_reducible repeat (first | refine blk_drewN ?_ _ | refine blk_drew ?_ | refine blk_alloc ?_ _)); refine blk_far ?_ NB219_260.out _; (with_reducible repeat (first | refine blk_drewN ?_ _ | refine blk_drew ?_ | refine blk_alloc ?_ _)); exact BK219.out) hb); have n7_ := aM (bB (g := gb220) (o := .cells #[.int .i64 a1_0, .int .i64 a1_1, .int .i64 a1_2, .slice A1_3 l1_3.length c1_3] 45 (0, 0)) (by (with_reducible repeat (first | refine blk_drewN ?_ _ | refine blk_drew ?_ | refine blk_alloc ?_ _)); refine blk_far ?_ NB220_260.out _; (with_reducible repeat (first | refine blk_drewN ?_ _ | refine blk_drew ?_ | refine blk_alloc ?_ _)); refine blk_far ?_ NB220_260.out _; (with_reducible repeat (first | refine blk_drewN ?_ _ | refine blk_drew ?_ | refine blk_alloc ?_ _)); refine blk_far ?_ NB220_260.out _; (with_reducible repeat (first | refine blk_drewN ?_ _ | refine blk_drew ?_ | refine blk_alloc ?_ _)); refine blk_far ?_ NB220_260.out _; (with_reducible repeat (first | refine blk_drewN ?_ _ | refine blk_drew ?_ | refine blk_alloc ?_ _)); exact BK220.out) hb); have n8_ := aM (bB (g := gb240) (o := .cells #[.int .i64 t233, .int .i64 t234, .int .i64 t235, .slice Ao44 t236.length co44] 28 (0, 0)) (by (with_reducible repeat (first | refine blk_drewN ?_ _ | refine blk_drew ?_ | refine blk_alloc ?_ _)); refine blk_far ?_ NB240_260.out _; (with_reducible repeat (first | refine blk_drewN ?_ _ | refine blk_drew ?_ | refine blk_alloc ?_ _)); refine blk_far ?_ NB240_260.out _; (with_reducible repeat (first | refine blk_drewN ?_ _ | refine blk_drew ?_ | refine blk_alloc ?_ _)); refine blk_far ?_ NB240_260.out _; (with_reducible repeat (first | refine blk_drewN ?_ _ | refine blk_drew ?_ | refine blk_alloc ?_ _)); refine blk_far ?_ NB240_260.out _; (with_reducible repeat (first | refine blk_drewN ?_ _ | refine blk_drew ?_ | refine blk_alloc ?_ _)); exact BK240.out) hb); have n9_ := aM (bB (g := gb245) (o := .cells #[.int .i64 t241, .slice Ao54 t242.length co54] 26 (0, 0)) (by (with_reducible repeat (first | refine blk_drewN ?_ _ | refine blk_drew ?_ | refine blk_alloc ?_ _)); refine blk_far ?_ NB245_260.out _; (with_reducible repeat (first | refine blk_drewN ?_ _ | refine blk_drew ?_ | refine blk_alloc ?_ _)); refine blk_far ?_ NB245_260.out _; (with_reducible repeat (first | refine blk_drewN ?_ _ | refine blk_drew ?_ | refine blk_alloc ?_ _)); refine blk_far ?_ NB245_260.out _; (with_reducible repeat (first | refine blk_drewN ?_ _ | refine blk_drew ?_ | refine blk_alloc ?_ _)); refine blk_far ?_ NB245_260.out _; (with_reducible repeat (first | refine blk_drewN ?_ _ | refine blk_drew ?_ | refine blk_alloc ?_ _)); exact BK245.out) hb); have n10_ := aM (bB (g := gb252) (o := .cells #[.int .i64 t246, .int .i64 t247, .int .i64 t248, .slice Ao64 t249.length co64] 28 (0, 0)) (by (with_reducible repeat (first | refine blk_drewN ?_ _ | refine blk_drew ?_ | refine blk_alloc ?_ _)); refine blk_far ?_ NB252_260.out _; (with_reducible repeat (first | refine blk_drewN ?_ _ | refine blk_drew ?_ | refine blk_alloc ?_ _)); refine blk_far ?_ NB252_260.out _; (with_reducible repeat (first | refine blk_drewN ?_ _ | refine blk_drew ?_ | refine blk_alloc ?_ _)); refine blk_far ?_ NB252_260.out _; (with_reducible repeat (first | refine blk_drewN ?_ _ | refine blk_drew ?_ | refine blk_alloc ?_ _)); refine blk_far ?_ NB252_260.out _; (with_reducible repeat (first | refine blk_drewN ?_ _ | refine blk_drew ?_ | refine blk_alloc ?_ _)); exact BK252.out) hb); have n11_ := aM (bB (g := gb260) (o := .cells #[.int .i64 t253, .int .i64 t254, .int .i64 t255, .slice Ao74 t256.length co74] 28 (0, 0)) (by (with_reducible repeat (first | refine blk_drewN ?_ _ | refine blk_drew ?_ | refine blk_alloc ?_ _)); refine blk_put (cs := #[.int .i64 t253, .int .i64 t254, .int .i64 t255, .slice none 0 0]) ?_ 3 _ rfl; (with_reducible repeat (first | refine blk_drewN ?_ _ | refine blk_drew ?_ | refine blk_alloc ?_ _)); refine blk_put (cs := #[.int .i64 t253, .int .i64 t254, .int .i64 0, .slice none 0 0]) ?_ 2 _ rfl; (with_reducible repeat (first | refine blk_drewN ?_ _ | refine blk_drew ?_ | refine blk_alloc ?_ _)); refine blk_put (cs := #[.int .i64 t253, .int .i64 0, .int .i64 0, .slice none 0 0]) ?_ 1 _ rfl; (with_reducible repeat (first | refine blk_drewN ?_ _ | refine blk_drew ?_ | refine blk_alloc ?_ _)); refine blk_put (cs := #[.int .i64 0, .int .i64 0, .int .i64 0, .slice none 0 0]) ?_ 0 _ rfl; (with_reducible repeat (first | refine blk_drewN ?_ _ | refine blk_drew ?_ | refine blk_alloc ?_ _)); exact BK260.out) hb); have n12_ := aM (bS (bl HB.out) hb); clear HO226 HO232; clear HO238 HO244; clear HO251 HO258; clear BK219 BK220; clear BK240 BK245; clear BK252 BK260 HB; have HO226 := n0_; have HO232 := n1_; have HO238 := n2_; have HO244 := n3_; have HO251 := n4_; have HO258 := n5_; have BK219 := n6_; have BK220 := n7_; have BK240 := n8_; have BK245 := n9_; have BK252 := n10_; have BK260 := n11_; have HB := n12_; clear n0_ n1_ n2_ n3_ n4_ n5_ n6_ n7_ n8_ n9_ n10_ n11_ n12_; (try clear hb); (try clear hb2); (try clear hk); (try clear hi)))
  go_meet
  case rel => exact ⟨_, ((t259 != t239)), (by first | rfl | (simp; done) | (simp [*]; done)), H', ⟨by first | omega | exact Nat.le_refl _⟩, ⟨kr (Kd.R_mono HO238.out (fun _ hk => ⟨hk.1.2, hk.2⟩))⟩, ⟨kr (Kd.R_mono HO244.out (fun _ hk => trivial))⟩, ⟨kr (Kd.R_mono HO251.out (fun _ hk => ⟨hk.1.2, hk.2⟩))⟩, ⟨kr (Kd.R_mono HO258.out (fun _ hk => ⟨hk.1.2, hk.2⟩))⟩, ⟨by (with_reducible repeat (first | refine blk_drewN ?_ _ | refine blk_drew ?_ | refine blk_alloc ?_ _)); exact BK219.out⟩, ⟨by (with_reducible repeat (first | refine blk_drewN ?_ _ | refine blk_drew ?_ | refine blk_alloc ?_ _)); exact BK220.out⟩, ⟨by (with_reducible repeat (first | refine blk_drewN ?_ _ | refine blk_drew ?_ | refine blk_alloc ?_ _)); exact BK240.out⟩, ⟨by (with_reducible repeat (first | refine blk_drewN ?_ _ | refine blk_drew ?_ | refine blk_alloc ?_ _)); exact BK245.out⟩, ⟨by (with_reducible repeat (first | refine blk_drewN ?_ _ | refine blk_drew ?_ | refine blk_alloc ?_ _)); exact BK252.out⟩, ⟨by (with_reducible repeat (first | refine blk_drewN ?_ _ | refine blk_drew ?_ | refine blk_alloc ?_ _)); exact BK260.out⟩, ⟨by repeat (first | (with_reducible first | exact HB.out | apply below_alloc | apply pw_below_drewN | apply below_drew1 | refine below_set ?_ GE219.out | refine below_set ?_ GE220.out | refine below_set ?_ GE240.out | refine below_set ?_ GE245.out | refine below_set ?_ GE252.out | refine below_set ?_ GE260.out) | exact HB.out)⟩⟩
 case rest =>
  clear HC25
  try clear c1
  try clear p2
  try clear c3
  try clear c4
  try clear c5
  try clear c6
  try clear c7
  try clear c8
  try clear c9
  try clear c14
  try clear c15
  try clear c32
  try clear c33
  try clear c34
  try clear c46
  try clear c50
  try clear c51
  try clear c52
  try clear c55
  try clear c59
  try clear c60
  try clear c61
  try clear c62
  try clear c68
  try clear c69
  try clear c70
  try clear c71
  try clear c72
  try clear c76
  try clear c77
  try clear c78
  try clear c79
  try clear c80
  try clear c81
  try clear c83
  try clear c84
  try clear c85
  try clear c86
  try clear c89
  try clear c90
  try clear c91
  try clear c92
  try clear c93
  try clear c95
  try clear c96
  try clear c97
  try clear c98
  try clear hcz47_0
  try clear hcz47_1
  try clear hcz53_0
  try clear hcz53_1
  try clear hcz56_0
  try clear hcz56_1
  try clear hcz56_2
  try clear hcz56_3
  try clear hcz63_0
  try clear hcz63_1
  try clear hcz63_2
  try clear hcz63_3
  try clear hcz65_0
  try clear hcz65_1
  try clear hcz73_0
  try clear hcz73_1
  try clear hcz73_2
  try clear hcz73_3
  try clear hcz82_0
  try clear hcz82_1
  try clear hcz82_2
  try clear hcz82_3
  try clear hcz87_0
  try clear hcz87_1
  try clear hcz87_2
  try clear hcz87_3
  try clear hcz94_0
  try clear hcz94_1
  try clear hcz94_2
  try clear hcz94_3
  try clear hcz99_0
  try clear hcz99_1
  try clear hcz99_2
  try clear hcz99_3
  try clear hfz47_0
  try clear hfz47_1
  try clear hfz53_0
  try clear hfz53_1
  try clear hfz56_0
  try clear hfz56_1
  try clear hfz56_2
  try clear hfz56_3
  try clear hfz63_0
  try clear hfz63_1
  try clear hfz63_2
  try clear hfz63_3
  try clear hfz65_0
  try clear hfz65_1
  try clear hfz73_0
  try clear hfz73_1
  try clear hfz73_2
  try clear hfz73_3
  try clear hfz82_0
  try clear hfz82_1
  try clear hfz82_2
  try clear hfz82_3
  try clear hfz87_0
  try clear hfz87_1
  try clear hfz87_2
  try clear hfz87_3
  try clear hfz94_0
  try clear hfz94_1
  try clear hfz94_2
  try clear hfz94_3
  try clear hfz99_0
  try clear hfz99_1
  try clear hfz99_2
  try clear hfz99_3
  obtain ⟨kq, x53_24, rfl, HA, HJ24, HO_241003, HO_246001, HO_253003, HO_261003, BK219, BK220, BK240, BK245, BK252, BK260, HB⟩ := hcut
  cases kq with
  | zero => exact absurd HA.out (by simp [laws_FnExactOutside.j0])
  | succ kj24 =>
   have H := HA.out
   clear HA
   simp only [laws_FnExactOutside.j0] at H
   by_cases c101 : x53_24 = true
   case pos =>
    subst c101
    have H1 : (some false) = some true := by first | (rw [if_pos rfl] at H; exact H) | (rw [if_pos rfl] at H)
    clear H
    have H := H1
    clear H1
    exact absurd (Option.some.inj H) (by decide)
   replace c101 := Bool.eq_false_iff.mpr c101
   subst c101
   have H1 : ((laws_toMember.f kj24 a0_0 l0_1).bind fun bt262 => ((laws_eqMember.f kj24 t241 t242 bt262.1 bt262.2).bind fun t266 => (if t266 = true then ((laws_toFrame.f kj24 a1_0 a1_1 a1_2 l1_3).bind fun bt267 => ((laws_eqFrame.f kj24 t246 t247 t248 t249 bt267.1 bt267.2.1 bt267.2.2.1 bt267.2.2.2).bind fun t273 => (if t273 = true then ((laws_markMember.f kj24 t241 t242 1).bind fun bt274 => ((laws_markFrame.f kj24 t246 t247 t248 t249 bt274.1).bind fun bt276 => (if bt276.1 < 0 then (laws_FnExactOutside.j1 kj24 t239 true a0_0 l0_1 a1_0 a1_1 a1_2 l1_3 t233 t234 t235 t236 t253 t254 t255 t256) else ((laws_eqFrame.f kj24 t253 t254 t255 t256 t233 t234 t235 t236).bind fun t278 => (if t278 = true then (laws_FnExactOutside.j1 kj24 t239 (t259 != t239) a0_0 l0_1 a1_0 a1_1 a1_2 l1_3 t233 t234 t235 t236 t253 t254 t255 t256) else (laws_FnExactOutside.j1 kj24 t239 true a0_0 l0_1 a1_0 a1_1 a1_2 l1_3 t233 t234 t235 t236 t253 t254 t255 t256)))))) else (some false)))) else (some false)))) = some true := by first | (rw [if_neg (show ¬ (false = true) by decide)] at H; exact H) | (rw [if_neg (show ¬ (false = true) by decide)] at H)
   clear H
   have H := H1
   clear H1
   replace H := Option.bind_eq_some_iff.mp H
   obtain ⟨⟨t262, t263⟩, A1020, H⟩ := H
   replace H : ((laws_eqMember.f kj24 t241 t242 t262 t263).bind fun t266 => (if t266 = true then ((laws_toFrame.f kj24 a1_0 a1_1 a1_2 l1_3).bind fun bt267 => ((laws_eqFrame.f kj24 t246 t247 t248 t249 bt267.1 bt267.2.1 bt267.2.2.1 bt267.2.2.2).bind fun t273 => (if t273 = true then ((laws_markMember.f kj24 t241 t242 1).bind fun bt274 => ((laws_markFrame.f kj24 t246 t247 t248 t249 bt274.1).bind fun bt276 => (if bt276.1 < 0 then (laws_FnExactOutside.j1 kj24 t239 true a0_0 l0_1 a1_0 a1_1 a1_2 l1_3 t233 t234 t235 t236 t253 t254 t255 t256) else ((laws_eqFrame.f kj24 t253 t254 t255 t256 t233 t234 t235 t236).bind fun t278 => (if t278 = true then (laws_FnExactOutside.j1 kj24 t239 (t259 != t239) a0_0 l0_1 a1_0 a1_1 a1_2 l1_3 t233 t234 t235 t236 t253 t254 t255 t256) else (laws_FnExactOutside.j1 kj24 t239 true a0_0 l0_1 a1_0 a1_1 a1_2 l1_3 t233 t234 t235 t236 t253 t254 t255 t256)))))) else (some false)))) else (some false))) = some true := H
   have A102 := aM A1020
   clear A1020
   replace H := Option.bind_eq_some_iff.mp H
   obtain ⟨t266, A1030, H⟩ := H
   replace H : (if t266 = true then ((laws_toFrame.f kj24 a1_0 a1_1 a1_2 l1_3).bind fun bt267 => ((laws_eqFrame.f kj24 t246 t247 t248 t249 bt267.1 bt267.2.1 bt267.2.2.1 bt267.2.2.2).bind fun t273 => (if t273 = true then ((laws_markMember.f kj24 t241 t242 1).bind fun bt274 => ((laws_markFrame.f kj24 t246 t247 t248 t249 bt274.1).bind fun bt276 => (if bt276.1 < 0 then (laws_FnExactOutside.j1 kj24 t239 true a0_0 l0_1 a1_0 a1_1 a1_2 l1_3 t233 t234 t235 t236 t253 t254 t255 t256) else ((laws_eqFrame.f kj24 t253 t254 t255 t256 t233 t234 t235 t236).bind fun t278 => (if t278 = true then (laws_FnExactOutside.j1 kj24 t239 (t259 != t239) a0_0 l0_1 a1_0 a1_1 a1_2 l1_3 t233 t234 t235 t236 t253 t254 t255 t256) else (laws_FnExactOutside.j1 kj24 t239 true a0_0 l0_1 a1_0 a1_1 a1_2 l1_3 t233 t234 t235 t236 t253 t254 t255 t256)))))) else (some false)))) else (some false)) = some true := H
   have A103 := aM A1030
   clear A1030
   by_cases c104 : t266 = true
   case neg =>
    replace c104 := Bool.eq_false_iff.mpr c104
    subst c104
    have H1 : (some false) = some true := by first | (rw [if_neg (show ¬ (false = true) by decide)] at H; exact H) | (rw [if_neg (show ¬ (false = true) by decide)] at H)
    clear H
    have H := H1
    clear H1
    exact absurd (Option.some.inj H) (by decide)
   subst c104
   have H1 : ((laws_toFrame.f kj24 a1_0 a1_1 a1_2 l1_3).bind fun bt267 => ((laws_eqFrame.f kj24 t246 t247 t248 t249 bt267.1 bt267.2.1 bt267.2.2.1 bt267.2.2.2).bind fun t273 => (if t273 = true then ((laws_markMember.f kj24 t241 t242 1).bind fun bt274 => ((laws_markFrame.f kj24 t246 t247 t248 t249 bt274.1).bind fun bt276 => (if bt276.1 < 0 then (laws_FnExactOutside.j1 kj24 t239 true a0_0 l0_1 a1_0 a1_1 a1_2 l1_3 t233 t234 t235 t236 t253 t254 t255 t256) else ((laws_eqFrame.f kj24 t253 t254 t255 t256 t233 t234 t235 t236).bind fun t278 => (if t278 = true then (laws_FnExactOutside.j1 kj24 t239 (t259 != t239) a0_0 l0_1 a1_0 a1_1 a1_2 l1_3 t233 t234 t235 t236 t253 t254 t255 t256) else (laws_FnExactOutside.j1 kj24 t239 true a0_0 l0_1 a1_0 a1_1 a1_2 l1_3 t233 t234 t235 t236 t253 t254 t255 t256)))))) else (some false)))) = some true := by first | (rw [if_pos rfl] at H; exact H) | (rw [if_pos rfl] at H)
   clear H
   have H := H1
   clear H1
   replace H := Option.bind_eq_some_iff.mp H
   obtain ⟨⟨t267, t268, t269, t270⟩, A1050, H⟩ := H
   replace H : ((laws_eqFrame.f kj24 t246 t247 t248 t249 t267 t268 t269 t270).bind fun t273 => (if t273 = true then ((laws_markMember.f kj24 t241 t242 1).bind fun bt274 => ((laws_markFrame.f kj24 t246 t247 t248 t249 bt274.1).bind fun bt276 => (if bt276.1 < 0 then (laws_FnExactOutside.j1 kj24 t239 true a0_0 l0_1 a1_0 a1_1 a1_2 l1_3 t233 t234 t235 t236 t253 t254 t255 t256) else ((laws_eqFrame.f kj24 t253 t254 t255 t256 t233 t234 t235 t236).bind fun t278 => (if t278 = true then (laws_FnExactOutside.j1 kj24 t239 (t259 != t239) a0_0 l0_1 a1_0 a1_1 a1_2 l1_3 t233 t234 t235 t236 t253 t254 t255 t256) else (laws_FnExactOutside.j1 kj24 t239 true a0_0 l0_1 a1_0 a1_1 a1_2 l1_3 t233 t234 t235 t236 t253 t254 t255 t256)))))) else (some false))) = some true := H
   have A105 := aM A1050
   clear A1050
   replace H := Option.bind_eq_some_iff.mp H
   obtain ⟨t273, A1060, H⟩ := H
   replace H : (if t273 = true then ((laws_markMember.f kj24 t241 t242 1).bind fun bt274 => ((laws_markFrame.f kj24 t246 t247 t248 t249 bt274.1).bind fun bt276 => (if bt276.1 < 0 then (laws_FnExactOutside.j1 kj24 t239 true a0_0 l0_1 a1_0 a1_1 a1_2 l1_3 t233 t234 t235 t236 t253 t254 t255 t256) else ((laws_eqFrame.f kj24 t253 t254 t255 t256 t233 t234 t235 t236).bind fun t278 => (if t278 = true then (laws_FnExactOutside.j1 kj24 t239 (t259 != t239) a0_0 l0_1 a1_0 a1_1 a1_2 l1_3 t233 t234 t235 t236 t253 t254 t255 t256) else (laws_FnExactOutside.j1 kj24 t239 true a0_0 l0_1 a1_0 a1_1 a1_2 l1_3 t233 t234 t235 t236 t253 t254 t255 t256)))))) else (some false)) = some true := H
   have A106 := aM A1060
   clear A1060
   by_cases c107 : t273 = true
   case neg =>
    replace c107 := Bool.eq_false_iff.mpr c107
    subst c107
    have H1 : (some false) = some true := by first | (rw [if_neg (show ¬ (false = true) by decide)] at H; exact H) | (rw [if_neg (show ¬ (false = true) by decide)] at H)
    clear H
    have H := H1
    clear H1
    exact absurd (Option.some.inj H) (by decide)
   subst c107
   have H1 : ((laws_markMember.f kj24 t241 t242 1).bind fun bt274 => ((laws_markFrame.f kj24 t246 t247 t248 t249 bt274.1).bind fun bt276 => (if bt276.1 < 0 then (laws_FnExactOutside.j1 kj24 t239 true a0_0 l0_1 a1_0 a1_1 a1_2 l1_3 t233 t234 t235 t236 t253 t254 t255 t256) else ((laws_eqFrame.f kj24 t253 t254 t255 t256 t233 t234 t235 t236).bind fun t278 => (if t278 = true then (laws_FnExactOutside.j1 kj24 t239 (t259 != t239) a0_0 l0_1 a1_0 a1_1 a1_2 l1_3 t233 t234 t235 t236 t253 t254 t255 t256) else (laws_FnExactOutside.j1 kj24 t239 true a0_0 l0_1 a1_0 a1_1 a1_2 l1_3 t233 t234 t235 t236 t253 t254 t255 t256)))))) = some true := by first | (rw [if_pos rfl] at H; exact H) | (rw [if_pos rfl] at H)
   clear H
   have H := H1
   clear H1
   replace H := Option.bind_eq_some_iff.mp H
   obtain ⟨⟨t274, t275⟩, A1080, H⟩ := H
   replace H : ((laws_markFrame.f kj24 t246 t247 t248 t249 t274).bind fun bt276 => (if bt276.1 < 0 then (laws_FnExactOutside.j1 kj24 t239 true a0_0 l0_1 a1_0 a1_1 a1_2 l1_3 t233 t234 t235 t236 t253 t254 t255 t256) else ((laws_eqFrame.f kj24 t253 t254 t255 t256 t233 t234 t235 t236).bind fun t278 => (if t278 = true then (laws_FnExactOutside.j1 kj24 t239 (t259 != t239) a0_0 l0_1 a1_0 a1_1 a1_2 l1_3 t233 t234 t235 t236 t253 t254 t255 t256) else (laws_FnExactOutside.j1 kj24 t239 true a0_0 l0_1 a1_0 a1_1 a1_2 l1_3 t233 t234 t235 t236 t253 t254 t255 t256))))) = some true := H
   have A108 := aM A1080
   clear A1080
   replace H := Option.bind_eq_some_iff.mp H
   obtain ⟨⟨t276, t277⟩, A1090, H⟩ := H
   replace H : (if t276 < 0 then (laws_FnExactOutside.j1 kj24 t239 true a0_0 l0_1 a1_0 a1_1 a1_2 l1_3 t233 t234 t235 t236 t253 t254 t255 t256) else ((laws_eqFrame.f kj24 t253 t254 t255 t256 t233 t234 t235 t236).bind fun t278 => (if t278 = true then (laws_FnExactOutside.j1 kj24 t239 (t259 != t239) a0_0 l0_1 a1_0 a1_1 a1_2 l1_3 t233 t234 t235 t236 t253 t254 t255 t256) else (laws_FnExactOutside.j1 kj24 t239 true a0_0 l0_1 a1_0 a1_1 a1_2 l1_3 t233 t234 t235 t236 t253 t254 t255 t256)))) = some true := H
   have A109 := aM A1090
   clear A1090
   have HC110 := aM H
   clear H
   try go_wp2
   have n0_ := aM (Kd.R_drew HO_241003.out)
   have n1_ := aM (Kd.R_drew HO_246001.out)
   have n2_ := aM (Kd.R_drew HO_253003.out)
   have n3_ := aM (Kd.R_drew HO_261003.out)
   have n4_ := aM (blk_drew BK219.out)
   have n5_ := aM (blk_drew BK220.out)
   have n6_ := aM (blk_drew BK240.out)
   have n7_ := aM (blk_drew BK245.out)
   have n8_ := aM (blk_drew BK252.out)
   have n9_ := aM (blk_drew BK260.out)
   have n10_ := aM (below_drew1 HB.out)
   clear HO_241003 HO_246001
   clear HO_253003 HO_261003
   clear BK219 BK220
   clear BK240 BK245
   clear BK252 BK260 HB
   have HO_241003 := n0_
   have HO_246001 := n1_
   have HO_253003 := n2_
   have HO_261003 := n3_
   have BK219 := n4_
   have BK220 := n5_
   have BK240 := n6_
   have BK245 := n7_
   have BK252 := n8_
   have BK260 := n9_
   have HB := n10_
   clear n0_ n1_ n2_ n3_ n4_ n5_ n6_ n7_ n8_ n9_ n10_
   refine start_ (n := 5) (S := fun w' => w'.cell? ⟨gb245, 0, none⟩ = some (.int .i64 t241) ∧ w'.cell? ⟨gb245, 1, none⟩ = some (.slice Ao54 t242.length co54) ∧ w'.cell? ⟨gb219, 0, none⟩ = some (.int .i64 a0_0) ∧ w'.cell? ⟨gb219, 1, none⟩ = some (.slice A0_1 l0_1.length c0_1)) (ds := []) #[U,U,U,U,U] (by kernel_rfl) rfl rfl ⟨cI BK245.out 0, cI BK245.out 1, cI BK219.out 0, cI BK219.out 1⟩ (fun hHeld => ?_)
   generalize wc.drew = w111 at HO_241003 HO_246001 HO_253003 HO_261003 BK219 BK220 BK240 BK245 BK252 BK260 HB hHeld ⊢
   refine take_ (i := 0) (N := some 54) (v := ?_) (a' := ?_) #[Y,U,U,U,U] rfl rfl (by kernel_rfl) (fun _ _ _ h => h) (Or.inl ⟨by rfl, ?_⟩) hHeld ?_ ?_
   rotate_left
   ·rintro w' ⟨s0, s1, s2, s3⟩
    go_simp
    with_reducible rfl
   rotate_left
   ·simp only [Act.put, sA, sZ, sS, i64_w, i32_w]
    rfl
   refine take_ (i := 1) (N := some 55) (v := ?_) (a' := ?_) #[Y,Y,U,U,U] rfl rfl (by kernel_rfl) (fun _ _ _ h => h) (Or.inl ⟨by rfl, ?_⟩) hHeld ?_ ?_
   rotate_left
   ·rintro w' ⟨s0, s1, s2, s3⟩
    go_simp
    with_reducible rfl
   rotate_left
   ·simp only [Act.put, sA, sZ, sS, i64_w, i32_w]
    rfl
   refine one_ (i := 2) (N := some 56) #[Y,Y,Y,U,U] rfl rfl (by kernel_rfl) (by decide) (fun K hK => ?_)
   refine goes_ Try.func32 (by kernel_rfl) rfl #[.agg #[.int .i64 a0_0, .slice A0_1 l0_1.length c0_1]] (by rfl) rfl rfl xR ?_
   with_reducible refine (laws_toMember.calls kj24 a0_0 _ _ l0_1 t262 t263 _ ?side1 ?side2 A102.out).mono ?_
   (case side1 => repeat (first | exact (cB HR0_1.out HB.out) | (with_reducible refine Kd.C_alloc ?_ _) | (with_reducible refine Kd.C_drewN ?_ _) | (with_reducible refine Kd.C_drew ?_)))
   (case side2 => exact HC0_1.out)
   rintro e w112 ⟨v264, rfl, ho0, hb⟩
   refine ⟨_, rfl, ?_⟩
   have n0_ := aM (kB (kr HO_241003.out) hb)
   have n1_ := aM (Kd.R_elder' (kr HO_246001.out) (Kd.R_base ho0) hb)
   have n2_ := aM (kB (kr HO_253003.out) hb)
   have n3_ := aM (kB (kr HO_261003.out) hb)
   have n4_ := aM (Kd.R_lower (Kd.R_new' ho0 (Kd.R_lt (kr HO_246001.out))) (below_size (bl HB.out)))
   have n5_ := aM (bB (g := gb219) (o := .cells #[.int .i64 a0_0, .slice A0_1 l0_1.length c0_1] 44 (0, 0)) (bk BK219.out) hb)
   have n6_ := aM (bB (g := gb220) (o := .cells #[.int .i64 a1_0, .int .i64 a1_1, .int .i64 a1_2, .slice A1_3 l1_3.length c1_3] 45 (0, 0)) (bk BK220.out) hb)
   have n7_ := aM (bB (g := gb240) (o := .cells #[.int .i64 t233, .int .i64 t234, .int .i64 t235, .slice Ao44 t236.length co44] 28 (0, 0)) (bk BK240.out) hb)
   have n8_ := aM (bB (g := gb245) (o := .cells #[.int .i64 t241, .slice Ao54 t242.length co54] 26 (0, 0)) (bk BK245.out) hb)
   have n9_ := aM (bB (g := gb252) (o := .cells #[.int .i64 t246, .int .i64 t247, .int .i64 t248, .slice Ao64 t249.length co64] 28 (0, 0)) (bk BK252.out) hb)
   have n10_ := aM (bB (g := gb260) (o := .cells #[.int .i64 t253, .int .i64 t254, .int .i64 t255, .slice Ao74 t256.length co74] 28 (0, 0)) (bk BK260.out) hb)
   have n11_ := aM (bS (bl HB.out) hb)
   clear HO_241003 HO_246001
   clear HO_253003 HO_261003
   clear BK219 BK220
   clear BK240 BK245
   clear BK252 BK260 HB
   have HO_241003 := n0_
   have HO_246001 := n1_
   have HO_253003 := n2_
   have HO_261003 := n3_
   have HO265 := n4_
   have BK219 := n5_
   have BK220 := n6_
   have BK240 := n7_
   have BK245 := n8_
   have BK252 := n9_
   have BK260 := n10_
   have HB := n11_
   clear n0_ n1_ n2_ n3_ n4_ n5_ n6_ n7_ n8_ n9_ n10_ n11_
   (try clear hb)
   (try clear hb2)
   (try clear hk)
   (try clear hi)
   (try clear ho0)
   obtain ⟨Ao113, co113, eo113⟩ := Kd.R_slice HO265.out
   (first | subst eo113 | (injection eo113 with f1_ f2_ f3_; have f4_ := f1_.symm; have f5_ := f3_.symm; clear f1_ f2_ f3_; subst f4_; subst f5_))
   refine hK.out _ _ ⟨cI BK245.out 0, cI BK245.out 1, cI BK219.out 0, cI BK219.out 1⟩ (fun hHeld => ?_)
   clear hK K
   refine norm_ (a' := ?_) ?_ ?_
   rotate_left
   ·show Act.put _ (some 56) _ = _
    simp only [Act.put, sA, sZ, sS, i64_w, i32_w]
    rfl
   refine one_ (i := 3) (N := some 57) #[Y,Y,Y,Y,U] rfl rfl (by kernel_rfl) (by decide) (fun K hK => ?_)
   refine goes_ Try.func35 (by kernel_rfl) rfl #[.agg #[.int .i64 t241, .slice Ao54 t242.length co54], .agg #[.int .i64 t262, .slice Ao113 t263.length co113]] (by rfl) rfl rfl xR ?_
   with_reducible refine (laws_eqMember.calls kj24 t241 _ _ t242 t262 _ _ t263 true _ ?side1 ?side2 ?side3 ?side4 A103.out).mono ?_
   (case side1 => repeat (first | exact (Kd.R_reads' HO_246001.out).2.2 | (with_reducible refine Kd.C_alloc ?_ _) | (with_reducible refine Kd.C_drewN ?_ _) | (with_reducible refine Kd.C_drew ?_)))
   (case side2 => exact (Kd.R_reads' HO_246001.out).2.1)
   (case side3 => repeat (first | exact (Kd.R_reads' HO265.out).2.2 | (with_reducible refine Kd.C_alloc ?_ _) | (with_reducible refine Kd.C_drewN ?_ _) | (with_reducible refine Kd.C_drew ?_)))
   (case side4 => exact (Kd.R_reads' HO265.out).2.1)
   rintro e w114 ⟨rfl, hb⟩
   refine ⟨_, rfl, ?_⟩
   have n0_ := aM (kB (kr HO_241003.out) hb)
   have n1_ := aM (kB (kr HO_246001.out) hb)
   have n2_ := aM (kB (kr HO_253003.out) hb)
   have n3_ := aM (kB (kr HO_261003.out) hb)
   have n4_ := aM (kB (kr HO265.out) hb)
   have n5_ := aM (bB (g := gb219) (o := .cells #[.int .i64 a0_0, .slice A0_1 l0_1.length c0_1] 44 (0, 0)) (bk BK219.out) hb)
   have n6_ := aM (bB (g := gb220) (o := .cells #[.int .i64 a1_0, .int .i64 a1_1, .int .i64 a1_2, .slice A1_3 l1_3.length c1_3] 45 (0, 0)) (bk BK220.out) hb)
   have n7_ := aM (bB (g := gb240) (o := .cells #[.int .i64 t233, .int .i64 t234, .int .i64 t235, .slice Ao44 t236.length co44] 28 (0, 0)) (bk BK240.out) hb)
   have n8_ := aM (bB (g := gb245) (o := .cells #[.int .i64 t241, .slice Ao54 t242.length co54] 26 (0, 0)) (bk BK245.out) hb)
   have n9_ := aM (bB (g := gb252) (o := .cells #[.int .i64 t246, .int .i64 t247, .int .i64 t248, .slice Ao64 t249.length co64] 28 (0, 0)) (bk BK252.out) hb)
   have n10_ := aM (bB (g := gb260) (o := .cells #[.int .i64 t253, .int .i64 t254, .int .i64 t255, .slice Ao74 t256.length co74] 28 (0, 0)) (bk BK260.out) hb)
   have n11_ := aM (bS (bl HB.out) hb)
   clear HO_241003 HO_246001
   clear HO_253003 HO_261003
   clear HO265 BK219
   clear BK220 BK240
   clear BK245 BK252
   clear BK260 HB
   have HO_241003 := n0_
   have HO_246001 := n1_
   have HO_253003 := n2_
   have HO_261003 := n3_
   have HO265 := n4_
   have BK219 := n5_
   have BK220 := n6_
   have BK240 := n7_
   have BK245 := n8_
   have BK252 := n9_
   have BK260 := n10_
   have HB := n11_
   clear n0_ n1_ n2_ n3_ n4_ n5_ n6_ n7_ n8_ n9_ n10_ n11_
   (try clear hb)
   (try clear hb2)
   (try clear hk)
   (try clear hi)
   refine hK.out _ _ ⟨cI BK245.out 0, cI BK245.out 1, cI BK219.out 0, cI BK219.out 1⟩ (fun hHeld => ?_)
   clear hK K
   refine norm_ (a' := ?_) ?_ ?_
   rotate_left
   ·show Act.put _ (some 57) _ = _
    simp only [Act.put, sA, sZ, sS, i64_w, i32_w]
    rfl
   refine pure_ (i := 4) (N := some 58) (v := ?_) (a' := ?_) #[Y,Y,Y,Y,Y] rfl rfl (by kernel_rfl) (fun _ _ _ h => h) (Or.inl ⟨by rfl, ?_⟩) ?_ ?_
   rotate_left
   ·intro w'
    go_simp
    with_reducible rfl
   rotate_left
   ·simp only [Act.put, sA, sZ, sS, i64_w, i32_w]
    rfl
   refine done_ (by kernel_rfl) ?_
   try go_wp2
   have n0_ := aM (Kd.R_drew HO_241003.out)
   have n1_ := aM (Kd.R_drew HO_246001.out)
   have n2_ := aM (Kd.R_drew HO_253003.out)
   have n3_ := aM (Kd.R_drew HO_261003.out)
   have n4_ := aM (Kd.R_drew HO265.out)
   have n5_ := aM (blk_drew BK219.out)
   have n6_ := aM (blk_drew BK220.out)
   have n7_ := aM (blk_drew BK240.out)
   have n8_ := aM (blk_drew BK245.out)
   have n9_ := aM (blk_drew BK252.out)
   have n10_ := aM (blk_drew BK260.out)
   have n11_ := aM (below_drew1 HB.out)
   clear HO_241003 HO_246001
   clear HO_253003 HO_261003
   clear HO265 BK219
   clear BK220 BK240
   clear BK245 BK252
   clear BK260 HB
   have HO_241003 := n0_
   have HO_246001 := n1_
   have HO_253003 := n2_
   have HO_261003 := n3_
   have HO265 := n4_
   have BK219 := n5_
   have BK220 := n6_
   have BK240 := n7_
   have BK245 := n8_
   have BK252 := n9_
   have BK260 := n10_
   have HB := n11_
   clear n0_ n1_ n2_ n3_ n4_ n5_ n6_ n7_ n8_ n9_ n10_ n11_
   refine start_ (n := 5) (S := fun w' => w'.cell? ⟨gb252, 0, none⟩ = some (.int .i64 t246) ∧ w'.cell? ⟨gb252, 1, none⟩ = some (.int .i64 t247) ∧ w'.cell? ⟨gb252, 2, none⟩ = some (.int .i64 t248) ∧ w'.cell? ⟨gb252, 3, none⟩ = some (.slice Ao64 t249.length co64) ∧ w'.cell? ⟨gb220, 0, none⟩ = some (.int .i64 a1_0) ∧ w'.cell? ⟨gb220, 1, none⟩ = some (.int .i64 a1_1) ∧ w'.cell? ⟨gb220, 2, none⟩ = some (.int .i64 a1_2) ∧ w'.cell? ⟨gb220, 3, none⟩ = some (.slice A1_3 l1_3.length c1_3)) (ds := []) #[U,U,U,U,U] (by kernel_rfl) rfl rfl ⟨cI BK252.out 0, cI BK252.out 1, cI BK252.out 2, cI BK252.out 3, cI BK220.out 0, cI BK220.out 1, cI BK220.out 2, cI BK220.out 3⟩ (fun hHeld => ?_)
   generalize w114.drew = w115 at HO_241003 HO_246001 HO_253003 HO_261003 HO265 BK219 BK220 BK240 BK245 BK252 BK260 HB hHeld ⊢
   refine take_ (i := 0) (N := some 59) (v := ?_) (a' := ?_) #[Y,U,U,U,U] rfl rfl (by kernel_rfl) (fun _ _ _ h => h) (Or.inl ⟨by rfl, ?_⟩) hHeld ?_ ?_
   rotate_left
   ·rintro w' ⟨s0, s1, s2, s3, s4, s5, s6, s7⟩
    go_simp
    with_reducible rfl
   rotate_left
   ·simp only [Act.put, sA, sZ, sS, i64_w, i32_w]
    rfl
   refine take_ (i := 1) (N := some 60) (v := ?_) (a' := ?_) #[Y,Y,U,U,U] rfl rfl (by kernel_rfl) (fun _ _ _ h => h) (Or.inl ⟨by rfl, ?_⟩) hHeld ?_ ?_
   rotate_left
   ·rintro w' ⟨s0, s1, s2, s3, s4, s5, s6, s7⟩
    go_simp
    with_reducible rfl
   rotate_left
   ·simp only [Act.put, sA, sZ, sS, i64_w, i32_w]
    rfl
   refine one_ (i := 2) (N := some 61) #[Y,Y,Y,U,U] rfl rfl (by kernel_rfl) (by decide) (fun K hK => ?_)
   refine goes_ Try.func33 (by kernel_rfl) rfl #[.agg #[.int .i64 a1_0, .int .i64 a1_1, .int .i64 a1_2, .slice A1_3 l1_3.length c1_3]] (by rfl) rfl rfl xR ?_
   with_reducible refine (laws_toFrame.calls kj24 a1_0 a1_1 a1_2 _ _ l1_3 t267 t268 t269 t270 _ ?side1 ?side2 A105.out).mono ?_
   (case side1 => repeat (first | exact (cB HR1_3.out HB.out) | (with_reducible refine Kd.C_alloc ?_ _) | (with_reducible refine Kd.C_drewN ?_ _) | (with_reducible refine Kd.C_drew ?_)))
   (case side2 => exact HC1_3.out)
   rintro e w116 ⟨v271, rfl, ho0, hb⟩
   refine ⟨_, rfl, ?_⟩
   have n0_ := aM (Kd.R_elder' (kr HO_241003.out) (Kd.R_base ho0) hb)
   have n1_ := aM (kB (kr HO_246001.out) hb)
   have n2_ := aM (Kd.R_elder' (kr HO_253003.out) (Kd.R_base ho0) hb)
   have n3_ := aM (Kd.R_elder' (kr HO_261003.out) (Kd.R_base ho0) hb)
   have n4_ := aM (kB (kr HO265.out) hb)
   have n5_ := aM (Kd.R_lower (Kd.R_new' (Kd.R_new' (Kd.R_new' ho0 (Kd.R_lt (kr HO_241003.out))) (Kd.R_lt (kr HO_253003.out))) (Kd.R_lt (kr HO_261003.out))) (below_size (bl HB.out)))
   have n6_ := aM (bB (g := gb219) (o := .cells #[.int .i64 a0_0, .slice A0_1 l0_1.length c0_1] 44 (0, 0)) (bk BK219.out) hb)
   have n7_ := aM (bB (g := gb220) (o := .cells #[.int .i64 a1_0, .int .i64 a1_1, .int .i64 a1_2, .slice A1_3 l1_3.length c1_3] 45 (0, 0)) (bk BK220.out) hb)
   have n8_ := aM (bB (g := gb240) (o := .cells #[.int .i64 t233, .int .i64 t234, .int .i64 t235, .slice Ao44 t236.length co44] 28 (0, 0)) (bk BK240.out) hb)
   have n9_ := aM (bB (g := gb245) (o := .cells #[.int .i64 t241, .slice Ao54 t242.length co54] 26 (0, 0)) (bk BK245.out) hb)
   have n10_ := aM (bB (g := gb252) (o := .cells #[.int .i64 t246, .int .i64 t247, .int .i64 t248, .slice Ao64 t249.length co64] 28 (0, 0)) (bk BK252.out) hb)
   have n11_ := aM (bB (g := gb260) (o := .cells #[.int .i64 t253, .int .i64 t254, .int .i64 t255, .slice Ao74 t256.length co74] 28 (0, 0)) (bk BK260.out) hb)
   have n12_ := aM (bS (bl HB.out) hb)
   clear HO_241003 HO_246001
   clear HO_253003 HO_261003
   clear HO265 BK219
   clear BK220 BK240
   clear BK245 BK252
   clear BK260 HB
   have HO_241003 := n0_
   have HO_246001 := n1_
   have HO_253003 := n2_
   have HO_261003 := n3_
   have HO265 := n4_
   have HO272 := n5_
   have BK219 := n6_
   have BK220 := n7_
   have BK240 := n8_
   have BK245 := n9_
   have BK252 := n10_
   have BK260 := n11_
   have HB := n12_
   clear n0_ n1_ n2_ n3_ n4_ n5_ n6_ n7_ n8_ n9_ n10_ n11_ n12_
   (try clear hb)
   (try clear hb2)
   (try clear hk)
   (try clear hi)
   (try clear ho0)
   obtain ⟨Ao117, co117, eo117⟩ := Kd.R_slice HO272.out
   (first | subst eo117 | (injection eo117 with f1_ f2_ f3_; have f4_ := f1_.symm; have f5_ := f3_.symm; clear f1_ f2_ f3_; subst f4_; subst f5_))
   refine hK.out _ _ ⟨cI BK252.out 0, cI BK252.out 1, cI BK252.out 2, cI BK252.out 3, cI BK220.out 0, cI BK220.out 1, cI BK220.out 2, cI BK220.out 3⟩ (fun hHeld => ?_)
   clear hK K
   refine norm_ (a' := ?_) ?_ ?_
   rotate_left
   ·show Act.put _ (some 61) _ = _
    simp only [Act.put, sA, sZ, sS, i64_w, i32_w]
    rfl
   refine one_ (i := 3) (N := some 62) #[Y,Y,Y,Y,U] rfl rfl (by kernel_rfl) (by decide) (fun K hK => ?_)
   refine goes_ Try.func34 (by kernel_rfl) rfl #[.agg #[.int .i64 t246, .int .i64 t247, .int .i64 t248, .slice Ao64 t249.length co64], .agg #[.int .i64 t267, .int .i64 t268, .int .i64 t269, .slice Ao117 t270.length co117]] (by rfl) rfl rfl xR ?_
   with_reducible refine (laws_eqFrame.calls kj24 t246 t247 t248 _ _ t249 t267 t268 t269 _ _ t270 true _ ?side1 ?side2 ?side3 ?side4 A106.out).mono ?_
   (case side1 => repeat (first | exact (Kd.R_reads' HO_253003.out).2.2 | (with_reducible refine Kd.C_alloc ?_ _) | (with_reducible refine Kd.C_drewN ?_ _) | (with_reducible refine Kd.C_drew ?_)))
   (case side2 => exact (Kd.R_reads' HO_253003.out).2.1)
   (case side3 => repeat (first | exact (Kd.R_reads' HO272.out).2.2 | (with_reducible refine Kd.C_alloc ?_ _) | (with_reducible refine Kd.C_drewN ?_ _) | (with_reducible refine Kd.C_drew ?_)))
   (case side4 => exact (Kd.R_reads' HO272.out).2.1)
   rintro e w118 ⟨rfl, hb⟩
   refine ⟨_, rfl, ?_⟩
   have n0_ := aM (kB (kr HO_241003.out) hb)
   have n1_ := aM (kB (kr HO_246001.out) hb)
   have n2_ := aM (kB (kr HO_253003.out) hb)
   have n3_ := aM (kB (kr HO_261003.out) hb)
   have n4_ := aM (kB (kr HO265.out) hb)
   have n5_ := aM (kB (kr HO272.out) hb)
   have n6_ := aM (bB (g := gb219) (o := .cells #[.int .i64 a0_0, .slice A0_1 l0_1.length c0_1] 44 (0, 0)) (bk BK219.out) hb)
   have n7_ := aM (bB (g := gb220) (o := .cells #[.int .i64 a1_0, .int .i64 a1_1, .int .i64 a1_2, .slice A1_3 l1_3.length c1_3] 45 (0, 0)) (bk BK220.out) hb)
   have n8_ := aM (bB (g := gb240) (o := .cells #[.int .i64 t233, .int .i64 t234, .int .i64 t235, .slice Ao44 t236.length co44] 28 (0, 0)) (bk BK240.out) hb)
   have n9_ := aM (bB (g := gb245) (o := .cells #[.int .i64 t241, .slice Ao54 t242.length co54] 26 (0, 0)) (bk BK245.out) hb)
   have n10_ := aM (bB (g := gb252) (o := .cells #[.int .i64 t246, .int .i64 t247, .int .i64 t248, .slice Ao64 t249.length co64] 28 (0, 0)) (bk BK252.out) hb)
   have n11_ := aM (bB (g := gb260) (o := .cells #[.int .i64 t253, .int .i64 t254, .int .i64 t255, .slice Ao74 t256.length co74] 28 (0, 0)) (bk BK260.out) hb)
   have n12_ := aM (bS (bl HB.out) hb)
   clear HO_241003 HO_246001
   clear HO_253003 HO_261003
   clear HO265 HO272
   clear BK219 BK220
   clear BK240 BK245
   clear BK252 BK260 HB
   have HO_241003 := n0_
   have HO_246001 := n1_
   have HO_253003 := n2_
   have HO_261003 := n3_
   have HO265 := n4_
   have HO272 := n5_
   have BK219 := n6_
   have BK220 := n7_
   have BK240 := n8_
   have BK245 := n9_
   have BK252 := n10_
   have BK260 := n11_
   have HB := n12_
   clear n0_ n1_ n2_ n3_ n4_ n5_ n6_ n7_ n8_ n9_ n10_ n11_ n12_
   (try clear hb)
   (try clear hb2)
   (try clear hk)
   (try clear hi)
   refine hK.out _ _ ⟨cI BK252.out 0, cI BK252.out 1, cI BK252.out 2, cI BK252.out 3, cI BK220.out 0, cI BK220.out 1, cI BK220.out 2, cI BK220.out 3⟩ (fun hHeld => ?_)
   clear hK K
   refine norm_ (a' := ?_) ?_ ?_
   rotate_left
   ·show Act.put _ (some 62) _ = _
    simp only [Act.put, sA, sZ, sS, i64_w, i32_w]
    rfl
   refine pure_ (i := 4) (N := some 63) (v := ?_) (a' := ?_) #[Y,Y,Y,Y,Y] rfl rfl (by kernel_rfl) (fun _ _ _ h => h) (Or.inl ⟨by rfl, ?_⟩) ?_ ?_
   rotate_left
   ·intro w'
    go_simp
    with_reducible rfl
   rotate_left
   ·simp only [Act.put, sA, sZ, sS, i64_w, i32_w]
    rfl
   refine done_ (by kernel_rfl) ?_
   have hnb119 := NB245_219.out
   have hnc119 := NB219_245.out
   have hnb120 := NB245_220.out
   have hnc120 := NB220_245.out
   have hnb121 := NB245_240.out
   have hnc121 := NB240_245.out
   have hnb122 := NB245_252.out
   have hnc122 := NB252_245.out
   have hnb123 := NB245_260.out
   have hnc123 := NB260_245.out
   have hcz124_0 := cI BK245.out 0
   have hcz124_1 := cI BK245.out 1
   have hfz124_0 := bF BK245.out 0
   have hfz124_1 := bF BK245.out 1
   go_upto_region 21 with (first | ((with_reducible refine gate_callee (f := 36) rfl ?_); refine goesL_ (some 66) rfl rfl Try.func36 (by kernel_rfl) rfl #[.agg #[.int .i64 t241, .slice Ao54 t242.length co54], .int .i64 1] rfl xR ?_; (with_reducible refine (laws_markMember.calls kj24 t241 (fun k_ => some k_ = (.slice Ao54 t242.length co54 : Value).ownBlock) (.slice Ao54 t242.length co54) t242 1 t274 t275 w _ ?side1 ?side2 A108.out).mono ?_); (case side1 => repeat (first | (with_reducible first | exact HB.out | apply below_alloc | apply pw_below_drewN | apply below_drew1 | refine below_set ?_ GE219.out | refine below_set ?_ GE220.out | refine below_set ?_ GE240.out | refine below_set ?_ GE245.out | refine below_set ?_ GE252.out | refine below_set ?_ GE260.out) | exact HB.out)); (case side2 => exact Kd.R_tight rfl HO_246001.out); rintro e w125 ⟨rfl, hy0, hb, hkp⟩; refine ⟨_, rfl, ?_⟩; have n0_ := aM (Kd.R_mono (ok' := fun k_ => some k_ ≠ (.slice Ao64 t249.length co64 : Value).ownBlock ∧ some k_ ≠ (.slice Ao74 t256.length co74 : Value).ownBlock ∧ some k_ ≠ (.slice Ao117 t270.length co117 : Value).ownBlock) (Kd.R_keptB ((Kd.R_apart' HO_241003.out (Kd.R_typed HO_246001.out) (by decide))) hkp (fun k_ hk_ hs_ => (hk_.2) hs_)) (fun k_ hk_ => ⟨hk_.1.1.1.1, hk_.1.1.1.2, hk_.1.1.2⟩)); have n1_ := aM (Kd.R_reok rfl hy0 (fun k_ e_ => HO_246001.out.1 k_ e_)); have n2_ := aM (Kd.R_mono (ok' := fun k_ => some k_ ≠ (.slice Ao44 t236.length co44 : Value).ownBlock ∧ some k_ ≠ (.slice Ao74 t256.length co74 : Value).ownBlock ∧ some k_ ≠ (.slice Ao117 t270.length co117 : Value).ownBlock) (Kd.R_keptB ((Kd.R_apart' HO_253003.out (Kd.R_typed HO_246001.out) (by decide))) hkp (fun k_ hk_ hs_ => (hk_.2) hs_)) (fun k_ hk_ => ⟨hk_.1.1.1.1, hk_.1.1.1.2, hk_.1.1.2⟩)); have n3_ := aM (Kd.R_mono (ok' := fun k_ => some k_ ≠ (.slice Ao44 t236.length co44 : Value).ownBlock ∧ some k_ ≠ (.slice Ao64 t249.length co64 : Value).ownBlock ∧ some k_ ≠ (.slice Ao117 t270.length co117 : Value).ownBlock) (Kd.R_keptB ((Kd.R_apart' HO_261003.out (Kd.R_typed HO_246001.out) (by decide))) hkp (fun k_ hk_ hs_ => (hk_.2) hs_)) (fun k_ hk_ => ⟨hk_.1.1.1.1, hk_.1.1.1.2, hk_.1.1.2⟩)); have n4_ := aM (blk_kept (bk BK219.out) hkp (fun hs_ => (fun e_ => (Kd.R_ne HO_246001.out BK219.out (by decide)) e_) hs_)); have n5_ := aM (blk_kept (bk BK220.out) hkp (fun hs_ => (fun e_ => (Kd.R_ne HO_246001.out BK220.out (by decide)) e_) hs_)); have n6_ := aM (blk_kept (bk BK240.out) hkp (fun hs_ => (fun e_ => (Kd.R_ne HO_246001.out BK240.out (by decide)) e_) hs_)); have n7_ := aM (blk_kept (bk BK245.out) hkp (fun hs_ => (fun e_ => (Kd.R_ne HO_246001.out BK245.out (by decide)) e_) hs_)); have n8_ := aM (blk_kept (bk BK252.out) hkp (fun hs_ => (fun e_ => (Kd.R_ne HO_246001.out BK252.out (by decide)) e_) hs_)); have n9_ := aM (blk_kept (bk BK260.out) hkp (fun hs_ => (fun e_ => (Kd.R_ne HO_246001.out BK260.out (by decide)) e_) hs_)); have n10_ := aM (Kd.R_mono (ok' := fun k_ => some k_ ≠ (.slice Ao54 t242.length co54 : Value).ownBlock) (Kd.R_keptB (HO265.out) hkp (fun k_ hk_ hs_ => (hk_.2) hs_)) (fun k_ hk_ => hk_.1.2)); have n11_ := aM (Kd.R_mono (ok' := fun k_ => some k_ ≠ (.slice Ao44 t236.length co44 : Value).ownBlock ∧ some k_ ≠ (.slice Ao64 t249.length co64 : Value).ownBlock ∧ some k_ ≠ (.slice Ao74 t256.length co74 : Value).ownBlock) (Kd.R_keptB ((Kd.R_apart' HO272.out (Kd.R_typed HO_246001.out) (by decide))) hkp (fun k_ hk_ hs_ => (hk_.2) hs_)) (fun k_ hk_ => ⟨hk_.1.1.1.1.2, hk_.1.1.1.2, hk_.1.1.2⟩)); have n12_ := aM (hb); clear HO_241003 HO_246001; clear HO_253003 HO_261003; clear BK219 BK220; clear BK240 BK245; clear BK252 BK260; clear HO265 HO272 HB; have HO_241003 := n0_; have HO_246001 := n1_; have HO_253003 := n2_; have HO_261003 := n3_; have BK219 := n4_; have BK220 := n5_; have BK240 := n6_; have BK245 := n7_; have BK252 := n8_; have BK260 := n9_; have HO265 := n10_; have HO272 := n11_; have HB := n12_; clear n0_ n1_ n2_ n3_ n4_ n5_ n6_ n7_ n8_ n9_ n10_ n11_ n12_; (try clear hb); (try clear hkp); (try clear hy0); have hnb126 := NB252_219.out; have hnc126 := NB219_252.out; have hnb127 := NB252_220.out; have hnc127 := NB220_252.out; have hnb128 := NB252_240.out; have hnc128 := NB240_252.out; have hnb129 := NB252_260.out; have hnc129 := NB260_252.out; have hcz130_0 := cI BK252.out 0; have hcz130_1 := cI BK252.out 1; have hcz130_2 := cI BK252.out 2; have hcz130_3 := cI BK252.out 3; have hfz130_0 := bF BK252.out 0; have hfz130_1 := bF BK252.out 1; have hfz130_2 := bF BK252.out 2; have hfz130_3 := bF BK252.out 3) | ((with_reducible refine gate_callee (f := 37) rfl ?_); refine goesL_ (some 69) rfl rfl Try.func37 (by kernel_rfl) rfl #[.agg #[.int .i64 t246, .int .i64 t247, .int .i64 t248, .slice Ao64 t249.length co64], .int .i64 t274] rfl xR ?_; (with_reducible refine (laws_markFrame.calls kj24 t246 t247 t248 (fun k_ => some k_ = (.slice Ao64 t249.length co64 : Value).ownBlock) (.slice Ao64 t249.length co64) t249 t274 t276 t277 w _ ?side1 ?side2 A109.out).mono ?_); (case side1 => repeat (first | (with_reducible first | exact HB.out | apply below_alloc | apply pw_below_drewN | apply below_drew1 | refine below_set ?_ GE219.out | refine below_set ?_ GE220.out | refine below_set ?_ GE240.out | refine below_set ?_ GE245.out | refine below_set ?_ GE252.out | refine below_set ?_ GE260.out) | exact HB.out)); (case side2 => exact Kd.R_tight rfl HO_253003.out); rintro e w131 ⟨rfl, hy0, hb, hkp⟩; refine ⟨_, rfl, ?_⟩; have n0_ := aM (Kd.R_mono (ok' := fun k_ => some k_ ≠ (.slice Ao64 t249.length co64 : Value).ownBlock ∧ some k_ ≠ (.slice Ao74 t256.length co74 : Value).ownBlock ∧ some k_ ≠ (.slice Ao117 t270.length co117 : Value).ownBlock) (Kd.R_keptB (HO_241003.out) hkp (fun k_ hk_ hs_ => (hk_.1) hs_)) (fun k_ hk_ => ⟨hk_.1.1, hk_.1.2.1, hk_.1.2.2⟩)); have n1_ := aM (Kd.R_mono (ok' := fun k_ => some k_ ≠ (.slice Ao113 t263.length co113 : Value).ownBlock) (Kd.R_keptB ((Kd.R_apart' HO_246001.out (Kd.R_typed HO_253003.out) (by decide))) hkp (fun k_ hk_ hs_ => (hk_.2) hs_)) (fun k_ hk_ => hk_.1.1.2)); have n2_ := aM (Kd.R_reok rfl hy0 (fun k_ e_ => HO_253003.out.1 k_ e_)); have n3_ := aM (Kd.R_mono (ok' := fun k_ => some k_ ≠ (.slice Ao44 t236.length co44 : Value).ownBlock ∧ some k_ ≠ (.slice Ao64 t249.length co64 : Value).ownBlock ∧ some k_ ≠ (.slice Ao117 t270.length co117 : Value).ownBlock) (Kd.R_keptB (HO_261003.out) hkp (fun k_ hk_ hs_ => (hk_.2.1) hs_)) (fun k_ hk_ => ⟨hk_.1.1, hk_.1.2.1, hk_.1.2.2⟩)); have n4_ := aM (blk_kept (bk BK219.out) hkp (fun hs_ => (fun e_ => (Kd.R_ne HO_253003.out BK219.out (by decide)) e_) hs_)); have n5_ := aM (blk_kept (bk BK220.out) hkp (fun hs_ => (fun e_ => (Kd.R_ne HO_253003.out BK220.out (by decide)) e_) hs_)); have n6_ := aM (blk_kept (bk BK240.out) hkp (fun hs_ => (fun e_ => (Kd.R_ne HO_253003.out BK240.out (by decide)) e_) hs_)); have n7_ := aM (blk_kept (bk BK245.out) hkp (fun hs_ => (fun e_ => (Kd.R_ne HO_253003.out BK245.out (by decide)) e_) hs_)); have n8_ := aM (blk_kept (bk BK252.out) hkp (fun hs_ => (fun e_ => (Kd.R_ne HO_253003.out BK252.out (by decide)) e_) hs_)); have n9_ := aM (blk_kept (bk BK260.out) hkp (fun hs_ => (fun e_ => (Kd.R_ne HO_253003.out BK260.out (by decide)) e_) hs_)); have n10_ := aM (Kd.R_mono (ok' := fun k_ => some k_ ≠ (.slice Ao54 t242.length co54 : Value).ownBlock) (Kd.R_keptB ((Kd.R_apart' HO265.out (Kd.R_typed HO_253003.out) (by decide))) hkp (fun k_ hk_ hs_ => (hk_.2) hs_)) (fun k_ hk_ => hk_.1.1)); have n11_ := aM (Kd.R_mono (ok' := fun k_ => some k_ ≠ (.slice Ao44 t236.length co44 : Value).ownBlock ∧ some k_ ≠ (.slice Ao64 t249.length co64 : Value).ownBlock ∧ some k_ ≠ (.slice Ao74 t256.length co74 : Value).ownBlock) (Kd.R_keptB (HO272.out) hkp (fun k_ hk_ hs_ => (hk_.2.1) hs_)) (fun k_ hk_ => ⟨hk_.1.1, hk_.1.2.1, hk_.1.2.2⟩)); have n12_ := aM (hb); clear HO_241003 HO_246001; clear HO_253003 HO_261003; clear BK219 BK220; clear BK240 BK245; clear BK252 BK260; clear HO265 HO272 HB; have HO_241003 := n0_; have HO_246001 := n1_; have HO_253003 := n2_; have HO_261003 := n3_; have BK219 := n4_; have BK220 := n5_; have BK240 := n6_; have BK245 := n7_; have BK252 := n8_; have BK260 := n9_; have HO265 := n10_; have HO272 := n11_; have HB := n12_; clear n0_ n1_ n2_ n3_ n4_ n5_ n6_ n7_ n8_ n9_ n10_ n11_ n12_; (try clear hb); (try clear hkp); (try clear hy0)))
   (try simp only [Act.put, sA, sZ, sS])
   go_cut [82] (fun v82 wc => ∃ (kq : Nat) (x82_109 : Bool), v82 = .bool x82_109 ∧ Aside0 (laws_FnExactOutside.j1 kq t239 x82_109 a0_0 l0_1 a1_0 a1_1 a1_2 l1_3 t233 t234 t235 t236 t253 t254 t255 t256 = some true) ∧ Aside0 (kq ≤ kj24) ∧ Aside0 (Kd.R (Kd.int .u8) 5 wc w.heap.size (fun k_ => some k_ ≠ ((.slice Ao64 t249.length co64) : Value).ownBlock ∧ some k_ ≠ ((.slice Ao74 t256.length co74) : Value).ownBlock) (.slice Ao44 t236.length co44) t236) ∧ Aside0 (Kd.R (Kd.int .i64) 3 wc w.heap.size (fun _ => True) (.slice Ao54 t242.length co54) t275) ∧ Aside0 (Kd.R (Kd.int .u8) 5 wc w.heap.size (fun k_ => some k_ ≠ ((.slice Ao44 t236.length co44) : Value).ownBlock ∧ some k_ ≠ ((.slice Ao74 t256.length co74) : Value).ownBlock) (.slice Ao64 t249.length co64) t277) ∧ Aside0 (Kd.R (Kd.int .u8) 5 wc w.heap.size (fun k_ => some k_ ≠ ((.slice Ao44 t236.length co44) : Value).ownBlock ∧ some k_ ≠ ((.slice Ao64 t249.length co64) : Value).ownBlock) (.slice Ao74 t256.length co74) t256) ∧ Aside0 (wc.heap[gb219]? = some (.cells #[.int .i64 a0_0, (.slice A0_1 l0_1.length c0_1)] 44 (0, 0))) ∧ Aside0 (wc.heap[gb220]? = some (.cells #[.int .i64 a1_0, .int .i64 a1_1, .int .i64 a1_2, (.slice A1_3 l1_3.length c1_3)] 45 (0, 0))) ∧ Aside0 (wc.heap[gb240]? = some (.cells #[.int .i64 t233, .int .i64 t234, .int .i64 t235, (.slice Ao44 t236.length co44)] 28 (0, 0))) ∧ Aside0 (wc.heap[gb245]? = some (.cells #[.int .i64 t241, (.slice Ao54 t242.length co54)] 26 (0, 0))) ∧ Aside0 (wc.heap[gb252]? = some (.cells #[.int .i64 t246, .int .i64 t247, .int .i64 t248, (.slice Ao64 t249.length co64)] 28 (0, 0))) ∧ Aside0 (wc.heap[gb260]? = some (.cells #[.int .i64 t253, .int .i64 t254, .int .i64 t255, (.slice Ao74 t256.length co74)] 28 (0, 0))) ∧ Aside0 (Below w.heap.size w wc))
   case first =>
    have H := HC110.out
    clear HC110
    by_cases c132 : t276 < 0
    case pos =>
     rw [if_pos c132] at H
     have c132b0 : decide (t276 < 0) = true := decide_eq_true c132
     clear c132
     (first | rw [c132b0] | (simp only [i64_w, i32_w]; rw [c132b0]) | skip)
     have H' := aM H
     clear H
     go_wp2
     go_meet
     case rel => exact ⟨_, (true), (by first | rfl | (simp; done) | (simp [*]; done)), H', ⟨by have := HJ24.out; first | omega | exact Nat.le_refl _⟩, ⟨kr (Kd.R_mono HO_241003.out (fun _ hk => ⟨hk.1, hk.2.1⟩))⟩, ⟨kr (Kd.R_mono HO_246001.out (fun _ hk => trivial))⟩, ⟨kr (Kd.R_mono HO_253003.out (fun _ hk => ⟨hk.1, hk.2.1⟩))⟩, ⟨kr (Kd.R_mono HO_261003.out (fun _ hk => ⟨hk.1, hk.2.1⟩))⟩, ⟨by (with_reducible repeat (first | refine blk_drewN ?_ _ | refine blk_drew ?_ | refine blk_alloc ?_ _)); exact BK219.out⟩, ⟨by (with_reducible repeat (first | refine blk_drewN ?_ _ | refine blk_drew ?_ | refine blk_alloc ?_ _)); exact BK220.out⟩, ⟨by (with_reducible repeat (first | refine blk_drewN ?_ _ | refine blk_drew ?_ | refine blk_alloc ?_ _)); exact BK240.out⟩, ⟨by (with_reducible repeat (first | refine blk_drewN ?_ _ | refine blk_drew ?_ | refine blk_alloc ?_ _)); exact BK245.out⟩, ⟨by (with_reducible repeat (first | refine blk_drewN ?_ _ | refine blk_drew ?_ | refine blk_alloc ?_ _)); exact BK252.out⟩, ⟨by (with_reducible repeat (first | refine blk_drewN ?_ _ | refine blk_drew ?_ | refine blk_alloc ?_ _)); exact BK260.out⟩, ⟨by repeat (first | (with_reducible first | exact HB.out | apply below_alloc | apply pw_below_drewN | apply below_drew1 | refine below_set ?_ GE219.out | refine below_set ?_ GE220.out | refine below_set ?_ GE240.out | refine below_set ?_ GE245.out | refine below_set ?_ GE252.out | refine below_set ?_ GE260.out) | exact HB.out)⟩⟩
    rw [if_neg c132] at H
    have c132b0 : decide (t276 < 0) = false := decide_eq_false c132
    clear c132
    (first | rw [c132b0] | (simp only [i64_w, i32_w]; rw [c132b0]) | skip)
    replace H := Option.bind_eq_some_iff.mp H
    obtain ⟨t278, A1330, H⟩ := H
    replace H : (if t278 = true then (laws_FnExactOutside.j1 kj24 t239 (t259 != t239) a0_0 l0_1 a1_0 a1_1 a1_2 l1_3 t233 t234 t235 t236 t253 t254 t255 t256) else (laws_FnExactOutside.j1 kj24 t239 true a0_0 l0_1 a1_0 a1_1 a1_2 l1_3 t233 t234 t235 t236 t253 t254 t255 t256)) = some true := H
    have A133 := aM A1330
    clear A1330
    by_cases c134 : t278 = true
    case neg =>
     replace c134 := Bool.eq_false_iff.mpr c134
     subst c134
     have H1 : (laws_FnExactOutside.j1 kj24 t239 true a0_0 l0_1 a1_0 a1_1 a1_2 l1_3 t233 t234 t235 t236 t253 t254 t255 t256) = some true := by first | (rw [if_neg (show ¬ (false = true) by decide)] at H; exact H) | (rw [if_neg (show ¬ (false = true) by decide)] at H)
     clear H
     have H := H1
     clear H1
     exact absurd H (by cases kj24 <;> (simp only [laws_FnExactOutside.j1, if_true]) <;> decide)
    subst c134
    have H1 : (laws_FnExactOutside.j1 kj24 t239 (t259 != t239) a0_0 l0_1 a1_0 a1_1 a1_2 l1_3 t233 t234 t235 t236 t253 t254 t255 t256) = some true := by first | (rw [if_pos rfl] at H; exact H) | (rw [if_pos rfl] at H)
    clear H
    have H := H1
    clear H1
    have H' := aM H
    clear H
    have hnb135 := NB260_219.out
    have hnc135 := NB219_260.out
    have hnb136 := NB260_220.out
    have hnc136 := NB220_260.out
    have hnb137 := NB260_240.out
    have hnc137 := NB240_260.out
    have hnb138 := NB260_245.out
    have hnc138 := NB245_260.out
    have hnb139 := NB260_252.out
    have hnc139 := NB252_260.out
    have hcz140_0 := cI BK260.out 0
    have hcz140_1 := cI BK260.out 1
    have hcz140_2 := cI BK260.out 2
    have hcz140_3 := cI BK260.out 3
    have hfz140_0 := bF BK260.out 0
    have hfz140_1 := bF BK260.out 1
    have hfz140_2 := bF BK260.out 2
    have hfz140_3 := bF BK260.out 3
    have hnb141 := NB240_219.out
    have hnc141 := NB219_240.out
    have hnb142 := NB240_220.out
    have hnc142 := NB220_240.out
    have hnb143 := NB240_245.out
    have hnc143 := NB245_240.out
    have hnb144 := NB240_252.out
    have hnc144 := NB252_240.out
    have hcz145_0 := cI BK240.out 0
    have hcz145_1 := cI BK240.out 1
    have hcz145_2 := cI BK240.out 2
    have hcz145_3 := cI BK240.out 3
    have hfz145_0 := bF BK240.out 0
    have hfz145_1 := bF BK240.out 1
    have hfz145_2 := bF BK240.out 2
    have hfz145_3 := bF BK240.out 3
    go_wp2_with (first | (go_at_call 34; (with_reducible refine (laws_eqFrame.calls kj24 t253 t254 t255 _ _ t256 t233 t234 t235 _ _ t236 true _ ?side1 ?side2 ?side3 ?side4 A133.out).mono ?_); (case side1 => repeat (first | exact (Kd.R_reads' HO_261003.out).2.2 | (with_reducible refine Kd.C_alloc ?_ _) | (with_reducible refine Kd.C_drewN ?_ _) | (with_reducible refine Kd.C_drew ?_))); (case side2 => exact (Kd.R_reads' HO_261003.out).2.1); (case side3 => repeat (first | exact (Kd.R_reads' HO_241003.out).2.2 | (with_reducible refine Kd.C_alloc ?_ _) | (with_reducible refine Kd.C_drewN ?_ _) | (with_reducible refine Kd.C_drew ?_))); (case side4 => exact (Kd.R_reads' HO_241003.out).2.1); rintro e w146 ⟨rfl, hb⟩; have n0_ := aM (kB (kr HO_241003.out) hb); have n1_ := aM (kB (kr HO_246001.out) hb); have n2_ := aM (kB (kr HO_253003.out) hb); have n3_ := aM (kB (kr HO_261003.out) hb); have n4_ := aM (kB (kr HO265.out) hb); have n5_ := aM (kB (kr HO272.out) hb); have n6_ := aM (bB (g := gb219) (o := .cells #[.int .i64 a0_0, .slice A0_1 l0_1.length c0_1] 44 (0, 0)) (bk BK219.out) hb); have n7_ := aM (bB (g := gb220) (o := .cells #[.int .i64 a1_0, .int .i64 a1_1, .int .i64 a1_2, .slice A1_3 l1_3.length c1_3] 45 (0, 0)) (bk BK220.out) hb); have n8_ := aM (bB (g := gb240) (o := .cells #[.int .i64 t233, .int .i64 t234, .int .i64 t235, .slice Ao44 t236.length co44] 28 (0, 0)) (bk BK240.out) hb); have n9_ := aM (bB (g := gb245) (o := .cells #[.int .i64 t241, .slice Ao54 t242.length co54] 26 (0, 0)) (bk BK245.out) hb); have n10_ := aM (bB (g := gb252) (o := .cells #[.int .i64 t246, .int .i64 t247, .int .i64 t248, .slice Ao64 t249.length co64] 28 (0, 0)) (bk BK252.out) hb); have n11_ := aM (bB (g := gb260) (o := .cells #[.int .i64 t253, .int .i64 t254, .int .i64 t255, .slice Ao74 t256.length co74] 28 (0, 0)) (bk BK260.out) hb); have n12_ := aM (bS (bl HB.out) hb); clear HO_241003 HO_246001; clear HO_253003 HO_261003; clear HO265 HO272; clear BK219 BK220; clear BK240 BK245; clear BK252 BK260 HB; have HO_241003 := n0_; have HO_246001 := n1_; have HO_253003 := n2_; have HO_261003 := n3_; have HO265 := n4_; have HO272 := n5_; have BK219 := n6_; have BK220 := n7_; have BK240 := n8_; have BK245 := n9_; have BK252 := n10_; have BK260 := n11_; have HB := n12_; clear n0_ n1_ n2_ n3_ n4_ n5_ n6_ n7_ n8_ n9_ n10_ n11_ n12_; (try clear hb); (try clear hb2); (try clear hk); (try clear hi)))
    go_meet
    case rel => exact ⟨_, ((t259 != t239)), (by first | rfl | (simp; done) | (simp [*]; done)), H', ⟨by have := HJ24.out; first | omega | exact Nat.le_refl _⟩, ⟨kr (Kd.R_mono HO_241003.out (fun _ hk => ⟨hk.1, hk.2.1⟩))⟩, ⟨kr (Kd.R_mono HO_246001.out (fun _ hk => trivial))⟩, ⟨kr (Kd.R_mono HO_253003.out (fun _ hk => ⟨hk.1, hk.2.1⟩))⟩, ⟨kr (Kd.R_mono HO_261003.out (fun _ hk => ⟨hk.1, hk.2.1⟩))⟩, ⟨by (with_reducible repeat (first | refine blk_drewN ?_ _ | refine blk_drew ?_ | refine blk_alloc ?_ _)); exact BK219.out⟩, ⟨by (with_reducible repeat (first | refine blk_drewN ?_ _ | refine blk_drew ?_ | refine blk_alloc ?_ _)); exact BK220.out⟩, ⟨by (with_reducible repeat (first | refine blk_drewN ?_ _ | refine blk_drew ?_ | refine blk_alloc ?_ _)); exact BK240.out⟩, ⟨by (with_reducible repeat (first | refine blk_drewN ?_ _ | refine blk_drew ?_ | refine blk_alloc ?_ _)); exact BK245.out⟩, ⟨by (with_reducible repeat (first | refine blk_drewN ?_ _ | refine blk_drew ?_ | refine blk_alloc ?_ _)); exact BK252.out⟩, ⟨by (with_reducible repeat (first | refine blk_drewN ?_ _ | refine blk_drew ?_ | refine blk_alloc ?_ _)); exact BK260.out⟩, ⟨by repeat (first | (with_reducible first | exact HB.out | apply below_alloc | apply pw_below_drewN | apply below_drew1 | refine below_set ?_ GE219.out | refine below_set ?_ GE220.out | refine below_set ?_ GE240.out | refine below_set ?_ GE245.out | refine below_set ?_ GE252.out | refine below_set ?_ GE260.out) | exact HB.out)⟩⟩
   case rest =>
    clear HC110
    try clear c1
    try clear p2
    try clear c3
    try clear c10
    try clear c11
    try clear c12
    try clear c13
    try clear c14
    try clear c15
    try clear c32
    try clear c33
    try clear c34
    try clear c35
    try clear c36
    try clear c37
    try clear c101
    try clear c104
    try clear c107
    try clear c119
    try clear c120
    try clear c121
    try clear c122
    try clear c123
    try clear c126
    try clear c127
    try clear c128
    try clear c129
    try clear c132
    try clear c132b0
    try clear c134
    try clear c135
    try clear c136
    try clear c137
    try clear c138
    try clear c139
    try clear c141
    try clear c142
    try clear c143
    try clear c144
    try clear c147
    try clear c148
    try clear c149
    try clear c150
    try clear c151
    try clear c153
    try clear c154
    try clear c155
    try clear c156
    try clear hcz124_0
    try clear hcz124_1
    try clear hcz130_0
    try clear hcz130_1
    try clear hcz130_2
    try clear hcz130_3
    try clear hcz140_0
    try clear hcz140_1
    try clear hcz140_2
    try clear hcz140_3
    try clear hcz145_0
    try clear hcz145_1
    try clear hcz145_2
    try clear hcz145_3
    try clear hcz152_0
    try clear hcz152_1
    try clear hcz152_2
    try clear hcz152_3
    try clear hcz157_0
    try clear hcz157_1
    try clear hcz157_2
    try clear hcz157_3
    try clear hcz94_1
    try clear hcz94_2
    try clear hcz94_3
    try clear hcz99_0
    try clear hcz99_1
    try clear hcz99_2
    try clear hcz99_3
    try clear hfz124_0
    try clear hfz124_1
    try clear hfz130_0
    try clear hfz130_1
    try clear hfz130_2
    try clear hfz130_3
    try clear hfz140_0
    try clear hfz140_1
    try clear hfz140_2
    try clear hfz140_3
    try clear hfz145_0
    try clear hfz145_1
    try clear hfz145_2
    try clear hfz145_3
    try clear hfz152_0
    try clear hfz152_1
    try clear hfz152_2
    try clear hfz152_3
    try clear hfz157_0
    try clear hfz157_1
    try clear hfz157_2
    try clear hfz157_3
    try clear hfz47_0
    try clear hfz47_1
    try clear hfz53_0
    try clear hfz53_1
    try clear hfz56_0
    try clear hfz56_1
    try clear hfz56_2
    try clear hfz56_3
    try clear hfz63_0
    try clear hfz63_1
    try clear hfz63_2
    try clear hfz63_3
    try clear hfz65_0
    try clear hfz65_1
    try clear hfz73_0
    try clear hfz73_1
    try clear hfz73_2
    try clear hfz73_3
    try clear hfz82_0
    try clear hfz82_1
    try clear hfz82_2
    try clear hfz82_3
    try clear hfz87_0
    try clear hfz87_1
    try clear hfz87_2
    try clear hfz87_3
    try clear hfz94_0
    try clear hfz94_1
    try clear hfz94_2
    try clear hfz94_3
    try clear hfz99_0
    try clear hfz99_1
    try clear hfz99_2
    try clear hfz99_3
    obtain ⟨kq, x82_109, rfl, HA, HJ109, HO_241003, HO_246001, HO_253003, HO_261003, BK219, BK220, BK240, BK245, BK252, BK260, HB⟩ := hcut
    have hl246001_109 := (Kd.R_reads' HO_246001.out).1
    rw [hl246001_109] at HO_246001
    (try simp only [hl246001_109])
    (try simp only [hl246001_109] at BK219)
    (try simp only [hl246001_109] at BK220)
    (try simp only [hl246001_109] at BK240)
    (try simp only [hl246001_109] at BK245)
    (try simp only [hl246001_109] at BK252)
    (try simp only [hl246001_109] at BK260)
    (try simp only [hl246001_109] at HO_241003)
    (try simp only [hl246001_109] at HO_253003)
    (try simp only [hl246001_109] at HO_261003)
    have hl253003_109 := (Kd.R_reads' HO_253003.out).1
    rw [hl253003_109] at HO_253003
    (try simp only [hl253003_109])
    (try simp only [hl253003_109] at BK219)
    (try simp only [hl253003_109] at BK220)
    (try simp only [hl253003_109] at BK240)
    (try simp only [hl253003_109] at BK245)
    (try simp only [hl253003_109] at BK252)
    (try simp only [hl253003_109] at BK260)
    (try simp only [hl253003_109] at HO_241003)
    (try simp only [hl253003_109] at HO_246001)
    (try simp only [hl253003_109] at HO_261003)
    cases kq with
    | zero => exact absurd HA.out (by simp [laws_FnExactOutside.j1])
    | succ kj109 =>
     have H := HA.out
     clear HA
     simp only [laws_FnExactOutside.j1] at H
     by_cases c159 : x82_109 = true
     case pos =>
      subst c159
      have H1 : (some false) = some true := by first | (rw [if_pos rfl] at H; exact H) | (rw [if_pos rfl] at H)
      clear H
      have H := H1
      clear H1
      exact absurd (Option.some.inj H) (by decide)
     replace c159 := Bool.eq_false_iff.mpr c159
     subst c159
     have H1 : ((laws_markFrame.f kj109 t253 t254 t255 t256 1).bind fun bt279 => ((laws_heldFrame.f kj109 t253 t254 t255 bt279.2 1).bind fun t281 => (if t281 < 0 then (some false) else (if t281 = bt279.1 then ((laws_toMember.f kj109 a0_0 l0_1).bind fun bt282 => ((laws_toFrame.f kj109 a1_0 a1_1 a1_2 l1_3).bind fun bt286 => ((impl_Outside.f kj109 bt282.1 bt282.2 bt286.1 bt286.2.1 bt286.2.2.1 bt286.2.2.2).bind fun bt292 => ((laws_eqFrame.f kj109 bt292.1 bt292.2.1 bt292.2.2.1 bt292.2.2.2.1 t233 t234 t235 t236).bind fun t300 => (if t300 = true then (laws_FnExactOutside.j2 kj109 bt279.1 (bt292.2.2.2.2 != t239) t253 t254 t255 bt279.2) else (laws_FnExactOutside.j2 kj109 bt279.1 true t253 t254 t255 bt279.2)))))) else (some false))))) = some true := by first | (rw [if_neg (show ¬ (false = true) by decide)] at H; exact H) | (rw [if_neg (show ¬ (false = true) by decide)] at H)
     clear H
     have H := H1
     clear H1
     replace H := Option.bind_eq_some_iff.mp H
     obtain ⟨⟨t279, t280⟩, A1600, H⟩ := H
     replace H : ((laws_heldFrame.f kj109 t253 t254 t255 t280 1).bind fun t281 => (if t281 < 0 then (some false) else (if t281 = t279 then ((laws_toMember.f kj109 a0_0 l0_1).bind fun bt282 => ((laws_toFrame.f kj109 a1_0 a1_1 a1_2 l1_3).bind fun bt286 => ((impl_Outside.f kj109 bt282.1 bt282.2 bt286.1 bt286.2.1 bt286.2.2.1 bt286.2.2.2).bind fun bt292 => ((laws_eqFrame.f kj109 bt292.1 bt292.2.1 bt292.2.2.1 bt292.2.2.2.1 t233 t234 t235 t236).bind fun t300 => (if t300 = true then (laws_FnExactOutside.j2 kj109 t279 (bt292.2.2.2.2 != t239) t253 t254 t255 t280) else (laws_FnExactOutside.j2 kj109 t279 true t253 t254 t255 t280)))))) else (some false)))) = some true := H
     have A160 := aM A1600
     clear A1600
     replace H := Option.bind_eq_some_iff.mp H
     obtain ⟨t281, A1610, H⟩ := H
     replace H : (if t281 < 0 then (some false) else (if t281 = t279 then ((laws_toMember.f kj109 a0_0 l0_1).bind fun bt282 => ((laws_toFrame.f kj109 a1_0 a1_1 a1_2 l1_3).bind fun bt286 => ((impl_Outside.f kj109 bt282.1 bt282.2 bt286.1 bt286.2.1 bt286.2.2.1 bt286.2.2.2).bind fun bt292 => ((laws_eqFrame.f kj109 bt292.1 bt292.2.1 bt292.2.2.1 bt292.2.2.2.1 t233 t234 t235 t236).bind fun t300 => (if t300 = true then (laws_FnExactOutside.j2 kj109 t279 (bt292.2.2.2.2 != t239) t253 t254 t255 t280) else (laws_FnExactOutside.j2 kj109 t279 true t253 t254 t255 t280)))))) else (some false))) = some true := H
     have A161 := aM A1610
     clear A1610
     by_cases c162 : t281 < 0
     case pos =>
      rw [if_pos c162] at H
      have c162b0 : decide (t281 < 0) = true := decide_eq_true c162
      clear c162
      exact absurd (Option.some.inj H) (by decide)
     rw [if_neg c162] at H
     have c162b0 : decide (t281 < 0) = false := decide_eq_false c162
     clear c162
     by_cases c172 : t281 = t279
     case neg =>
      rw [if_neg c172] at H
      have c172b0 : (t281 == t279) = false := beq_eq_false_iff_ne.mpr c172
      have c172b1 : (t281 != t279) = true := bne_iff_ne.mpr c172
      exact absurd (Option.some.inj H) (by decide)
     rw [if_pos c172] at H
     have c172b0 : (t281 == t279) = true := beq_iff_eq.mpr c172
     have c172b1 : (t281 != t279) = false := bne_eq_false_iff_eq.mpr c172
     clear c172
     replace H := Option.bind_eq_some_iff.mp H
     obtain ⟨⟨t282, t283⟩, A1730, H⟩ := H
     replace H : ((laws_toFrame.f kj109 a1_0 a1_1 a1_2 l1_3).bind fun bt286 => ((impl_Outside.f kj109 t282 t283 bt286.1 bt286.2.1 bt286.2.2.1 bt286.2.2.2).bind fun bt292 => ((laws_eqFrame.f kj109 bt292.1 bt292.2.1 bt292.2.2.1 bt292.2.2.2.1 t233 t234 t235 t236).bind fun t300 => (if t300 = true then (laws_FnExactOutside.j2 kj109 t279 (bt292.2.2.2.2 != t239) t253 t254 t255 t280) else (laws_FnExactOutside.j2 kj109 t279 true t253 t254 t255 t280))))) = some true := H
     have A173 := aM A1730
     clear A1730
     replace H := Option.bind_eq_some_iff.mp H
     obtain ⟨⟨t286, t287, t288, t289⟩, A1740, H⟩ := H
     replace H : ((impl_Outside.f kj109 t282 t283 t286 t287 t288 t289).bind fun bt292 => ((laws_eqFrame.f kj109 bt292.1 bt292.2.1 bt292.2.2.1 bt292.2.2.2.1 t233 t234 t235 t236).bind fun t300 => (if t300 = true then (laws_FnExactOutside.j2 kj109 t279 (bt292.2.2.2.2 != t239) t253 t254 t255 t280) else (laws_FnExactOutside.j2 kj109 t279 true t253 t254 t255 t280)))) = some true := H
     have A174 := aM A1740
     clear A1740
     replace H := Option.bind_eq_some_iff.mp H
     obtain ⟨⟨t292, t293, t294, t295, t298⟩, A1750, H⟩ := H
     replace H : ((laws_eqFrame.f kj109 t292 t293 t294 t295 t233 t234 t235 t236).bind fun t300 => (if t300 = true then (laws_FnExactOutside.j2 kj109 t279 (t298 != t239) t253 t254 t255 t280) else (laws_FnExactOutside.j2 kj109 t279 true t253 t254 t255 t280))) = some true := H
     have A175 := aM A1750
     clear A1750
     have HC176 := aM H
     clear H
     have hnb177 := NB260_219.out
     have hnc177 := NB219_260.out
     have hnb178 := NB260_220.out
     have hnc178 := NB220_260.out
     have hnb179 := NB260_240.out
     have hnc179 := NB240_260.out
     have hnb180 := NB260_245.out
     have hnc180 := NB245_260.out
     have hnb181 := NB260_252.out
     have hnc181 := NB252_260.out
     have hcz182_0 := cI BK260.out 0
     have hcz182_1 := cI BK260.out 1
     have hcz182_2 := cI BK260.out 2
     have hcz182_3 := cI BK260.out 3
     have hfz182_0 := bF BK260.out 0
     have hfz182_1 := bF BK260.out 1
     have hfz182_2 := bF BK260.out 2
     have hfz182_3 := bF BK260.out 3
     try go_wp2_with (first | ((with_reducible refine gate_callee (f := 37) rfl ?_); refine goesL_ (some 85) rfl rfl Try.func37 (by kernel_rfl) rfl #[.agg #[.int .i64 t253, .int .i64 t254, .int .i64 t255, .slice Ao74 t256.length co74], .int .i64 1] rfl xR ?_; (with_reducible refine (laws_markFrame.calls kj109 t253 t254 t255 (fun k_ => some k_ = (.slice Ao74 t256.length co74 : Value).ownBlock) (.slice Ao74 t256.length co74) t256 1 t279 t280 w _ ?side1 ?side2 A160.out).mono ?_); (case side1 => repeat (first | (with_reducible first | exact HB.out | apply below_alloc | apply pw_below_drewN | apply below_drew1 | refine below_set ?_ GE219.out | refine below_set ?_ GE220.out | refine below_set ?_ GE240.out | refine below_set ?_ GE245.out | refine below_set ?_ GE252.out | refine below_set ?_ GE260.out) | exact HB.out)); (case side2 => exact Kd.R_tight rfl HO_261003.out); rintro e w183 ⟨rfl, hy0, hb, hkp⟩; refine ⟨_, rfl, ?_⟩; have n0_ := aM (Kd.R_mono (ok' := fun k_ => some k_ ≠ (.slice Ao64 t277.length co64 : Value).ownBlock ∧ some k_ ≠ (.slice Ao74 t256.length co74 : Value).ownBlock) (Kd.R_keptB (HO_241003.out) hkp (fun k_ hk_ hs_ => (hk_.2) hs_)) (fun k_ hk_ => ⟨hk_.1.1, hk_.1.2⟩)); have n1_ := aM (Kd.R_mono (ok' := fun k_ => True) (Kd.R_keptB ((Kd.R_apart' HO_246001.out (Kd.R_typed HO_261003.out) (by decide))) hkp (fun k_ hk_ hs_ => (hk_.2) hs_)) (fun k_ hk_ => trivial)); have n2_ := aM (Kd.R_mono (ok' := fun k_ => some k_ ≠ (.slice Ao44 t236.length co44 : Value).ownBlock ∧ some k_ ≠ (.slice Ao74 t256.length co74 : Value).ownBlock) (Kd.R_keptB (HO_253003.out) hkp (fun k_ hk_ hs_ => (hk_.2) hs_)) (fun k_ hk_ => ⟨hk_.1.1, hk_.1.2⟩)); have n3_ := aM (Kd.R_reok rfl hy0 (fun k_ e_ => HO_261003.out.1 k_ e_)); have n4_ := aM (blk_kept (bk BK219.out) hkp (fun hs_ => (fun e_ => (Kd.R_ne HO_261003.out BK219.out (by decide)) e_) hs_)); have n5_ := aM (blk_kept (bk BK220.out) hkp (fun hs_ => (fun e_ => (Kd.R_ne HO_261003.out BK220.out (by decide)) e_) hs_)); have n6_ := aM (blk_kept (bk BK240.out) hkp (fun hs_ => (fun e_ => (Kd.R_ne HO_261003.out BK240.out (by decide)) e_) hs_)); have n7_ := aM (blk_kept (bk BK245.out) hkp (fun hs_ => (fun e_ => (Kd.R_ne HO_261003.out BK245.out (by decide)) e_) hs_)); have n8_ := aM (blk_kept (bk BK252.out) hkp (fun hs_ => (fun e_ => (Kd.R_ne HO_261003.out BK252.out (by decide)) e_) hs_)); have n9_ := aM (blk_kept (bk BK260.out) hkp (fun hs_ => (fun e_ => (Kd.R_ne HO_261003.out BK260.out (by decide)) e_) hs_)); have n10_ := aM (hb); clear HO_241003 HO_246001; clear HO_253003 HO_261003; clear BK219 BK220; clear BK240 BK245; clear BK252 BK260 HB; have HO_241003 := n0_; have HO_246001 := n1_; have HO_253003 := n2_; have HO_261003 := n3_; have BK219 := n4_; have BK220 := n5_; have BK240 := n6_; have BK245 := n7_; have BK252 := n8_; have BK260 := n9_; have HB := n10_; clear n0_ n1_ n2_ n3_ n4_ n5_ n6_ n7_ n8_ n9_ n10_; (try clear hb); (try clear hkp); (try clear hy0); have hcz184_0 := cI BK260.out 0; have hcz184_1 := cI BK260.out 1; have hcz184_2 := cI BK260.out 2; have hcz184_3 := cI BK260.out 3; have hfz184_0 := bF BK260.out 0; have hfz184_1 := bF BK260.out 1; have hfz184_2 := bF BK260.out 2; have hfz184_3 := bF BK260.out 3) | ((with_reducible refine gate_callee (f := 38) rfl ?_); refine goesL_ (some 88) rfl rfl Try.func38 (by kernel_rfl) rfl #[.agg #[.int .i64 t253, .int .i64 t254, .int .i64 t255, .slice Ao74 t280.length co74], .int .i64 1] rfl (by (try simp only [List.map_toArray, List.map_cons, List.map_nil]); first | done | (rw [show t280.length = t256.length from (Kd.R_reads' HO_261003.out).1.symm] <;> rfl) | rfl | (simp only [List.length_drop, List.length_take]; rfl)) ?_; (with_reducible refine (laws_heldFrame.calls kj109 t253 t254 t255 _ _ t280 1 t281 _ ?side1 ?side2 A161.out).mono ?_); (case side1 => repeat (first | exact (Kd.R_reads' HO_261003.out).2.2 | (with_reducible refine Kd.C_alloc ?_ _) | (with_reducible refine Kd.C_drewN ?_ _) | (with_reducible refine Kd.C_drew ?_))); (case side2 => rw [show t280.length = t256.length from (Kd.R_reads' HO_261003.out).1.symm]; exact (Kd.R_reads' HO_261003.out).2.1); rintro e w185 ⟨rfl, hb⟩; refine ⟨_, rfl, ?_⟩; have n0_ := aM (kB (kr HO_241003.out) hb); have n1_ := aM (kB (kr HO_246001.out) hb); have n2_ := aM (kB (kr HO_253003.out) hb); have n3_ := aM (kB (kr HO_261003.out) hb); have n4_ := aM (bB (g := gb219) (o := .cells #[.int .i64 a0_0, .slice A0_1 l0_1.length c0_1] 44 (0, 0)) (bk BK219.out) hb); have n5_ := aM (bB (g := gb220) (o := .cells #[.int .i64 a1_0, .int .i64 a1_1, .int .i64 a1_2, .slice A1_3 l1_3.length c1_3] 45 (0, 0)) (bk BK220.out) hb); have n6_ := aM (bB (g := gb240) (o := .cells #[.int .i64 t233, .int .i64 t234, .int .i64 t235, .slice Ao44 t236.length co44] 28 (0, 0)) (bk BK240.out) hb); have n7_ := aM (bB (g := gb245) (o := .cells #[.int .i64 t241, .slice Ao54 t275.length co54] 26 (0, 0)) (bk BK245.out) hb); have n8_ := aM (bB (g := gb252) (o := .cells #[.int .i64 t246, .int .i64 t247, .int .i64 t248, .slice Ao64 t277.length co64] 28 (0, 0)) (bk BK252.out) hb); have n9_ := aM (bB (g := gb260) (o := .cells #[.int .i64 t253, .int .i64 t254, .int .i64 t255, .slice Ao74 t256.length co74] 28 (0, 0)) (bk BK260.out) hb); have n10_ := aM (bS (bl HB.out) hb); clear HO_241003 HO_246001; clear HO_253003 HO_261003; clear BK219 BK220; clear BK240 BK245; clear BK252 BK260 HB; have HO_241003 := n0_; have HO_246001 := n1_; have HO_253003 := n2_; have HO_261003 := n3_; have BK219 := n4_; have BK220 := n5_; have BK240 := n6_; have BK245 := n7_; have BK252 := n8_; have BK260 := n9_; have HB := n10_; clear n0_ n1_ n2_ n3_ n4_ n5_ n6_ n7_ n8_ n9_ n10_; (try clear hb); (try clear hb2); (try clear hk); (try clear hi)))
     have n0_ := aM (Kd.R_drew HO_241003.out)
     have n1_ := aM (Kd.R_drew HO_246001.out)
     have n2_ := aM (Kd.R_drew HO_253003.out)
     have n3_ := aM (Kd.R_drew HO_261003.out)
     have n4_ := aM (blk_drew BK219.out)
     have n5_ := aM (blk_drew BK220.out)
     have n6_ := aM (blk_drew BK240.out)
     have n7_ := aM (blk_drew BK245.out)
     have n8_ := aM (blk_drew BK252.out)
     have n9_ := aM (blk_drew BK260.out)
     have n10_ := aM (below_drew1 HB.out)
     clear HO_241003 HO_246001
     clear HO_253003 HO_261003
     clear BK219 BK220
     clear BK240 BK245
     clear BK252 BK260 HB
     have HO_241003 := n0_
     have HO_246001 := n1_
     have HO_253003 := n2_
     have HO_261003 := n3_
     have BK219 := n4_
     have BK220 := n5_
     have BK240 := n6_
     have BK245 := n7_
     have BK252 := n8_
     have BK260 := n9_
     have HB := n10_
     clear n0_ n1_ n2_ n3_ n4_ n5_ n6_ n7_ n8_ n9_ n10_
     refine start_ (n := 11) (S := fun w' => w'.cell? ⟨gb219, 0, none⟩ = some (.int .i64 a0_0) ∧ w'.cell? ⟨gb219, 1, none⟩ = some (.slice A0_1 l0_1.length c0_1) ∧ w'.cell? ⟨gb220, 0, none⟩ = some (.int .i64 a1_0) ∧ w'.cell? ⟨gb220, 1, none⟩ = some (.int .i64 a1_1) ∧ w'.cell? ⟨gb220, 2, none⟩ = some (.int .i64 a1_2) ∧ w'.cell? ⟨gb220, 3, none⟩ = some (.slice A1_3 l1_3.length c1_3)) (ds := []) #[U,U,U,U,U,U,U,U,U,U,U] (by kernel_rfl) rfl rfl ⟨cI BK219.out 0, cI BK219.out 1, cI BK220.out 0, cI BK220.out 1, cI BK220.out 2, cI BK220.out 3⟩ (fun hHeld => ?_); refine with_tabW laws_FnExactOutside.tab31 laws_FnExactOutside.bits31 (fun HT_ HW_ => ?_)
     generalize w185.drew = w186 at HO_241003 HO_246001 HO_253003 HO_261003 BK219 BK220 BK240 BK245 BK252 BK260 HB hHeld ⊢
     refine take_ (i := 0) (N := some 95) (v := ?_) (a' := ?_) #[Y,U,U,U,U,U,U,U,U,U,U] rfl rfl (take_ofW HT_.out HW_.out (by kernel_rfl)) (fun _ _ _ h => h) (Or.inl ⟨by rfl, ?_⟩) hHeld ?_ ?_
     rotate_left
     ·rintro w' ⟨s0, s1, s2, s3, s4, s5⟩
      go_simp
      with_reducible rfl
     rotate_left
     ·simp only [Act.put, sA, sZ, sS, i64_w, i32_w]
      rfl
     refine take_ (i := 2) (N := some 97) (v := ?_) (a' := ?_) #[Y,U,Y,U,U,U,U,U,U,U,U] rfl rfl (take_ofW HT_.out HW_.out (by kernel_rfl)) (fun _ _ _ h => h) (Or.inl ⟨by rfl, ?_⟩) hHeld ?_ ?_
     rotate_left
     ·rintro w' ⟨s0, s1, s2, s3, s4, s5⟩
      go_simp
      with_reducible rfl
     rotate_left
     ·simp only [Act.put, sA, sZ, sS, i64_w, i32_w]
      rfl
     refine join_ (σ := Value × Value × Value × Nat) 2 #[Y,Y,Y,Y,Y,Y,Y,Y,Y,U,U] (fun s_ => [(96, .agg #[.int .i64 t282, s_.1]), (98, .agg #[.int .i64 t286, .int .i64 t287, .int .i64 t288, s_.2.1]), (99, .tuple #[.agg #[.int .i64 t292, .int .i64 t293, .int .i64 t294, s_.2.2.1], .bool t298]), (15, .pointer (some ⟨s_.2.2.2, 0, none⟩)), (94, .tuple #[.agg #[.int .i64 t292, .int .i64 t293, .int .i64 t294, s_.2.2.1], .bool t298]), (100, .agg #[.int .i64 t292, .int .i64 t293, .int .i64 t294, s_.2.2.1]), (101, .bool t298)]) (fun s_ w' => (w'.cell? ⟨gb219, 0, none⟩ = some (.int .i64 a0_0) ∧ w'.cell? ⟨gb219, 1, none⟩ = some (.slice A0_1 l0_1.length c0_1) ∧ w'.cell? ⟨gb220, 0, none⟩ = some (.int .i64 a1_0) ∧ w'.cell? ⟨gb220, 1, none⟩ = some (.int .i64 a1_1) ∧ w'.cell? ⟨gb220, 2, none⟩ = some (.int .i64 a1_2) ∧ w'.cell? ⟨gb220, 3, none⟩ = some (.slice A1_3 l1_3.length c1_3)) ∧ (Kd.R (Kd.int .i64) 3 w' w.heap.size (fun k_ => some k_ ≠ (.slice Ao54 t275.length co54 : Value).ownBlock) s_.1 t283) ∧ (Kd.R (Kd.int .u8) 5 w' w.heap.size (fun k_ => some k_ ≠ (s_.2.2.1 : Value).ownBlock ∧ some k_ ≠ (.slice Ao44 t236.length co44 : Value).ownBlock ∧ some k_ ≠ (.slice Ao64 t277.length co64 : Value).ownBlock ∧ some k_ ≠ (.slice Ao74 t256.length co74 : Value).ownBlock) s_.2.1 t289) ∧ (Kd.R (Kd.int .u8) 5 w' w.heap.size (fun k_ => some k_ ≠ (s_.2.1 : Value).ownBlock ∧ some k_ ≠ (.slice Ao44 t236.length co44 : Value).ownBlock ∧ some k_ ≠ (.slice Ao64 t277.length co64 : Value).ownBlock ∧ some k_ ≠ (.slice Ao74 t256.length co74 : Value).ownBlock) s_.2.2.1 t295) ∧ (Kd.R (Kd.int .u8) 5 w' w.heap.size (fun k_ => some k_ ≠ (s_.2.1 : Value).ownBlock ∧ some k_ ≠ (s_.2.2.1 : Value).ownBlock ∧ some k_ ≠ (.slice Ao64 t277.length co64 : Value).ownBlock ∧ some k_ ≠ (.slice Ao74 t256.length co74 : Value).ownBlock) (.slice Ao44 t236.length co44) t236) ∧ (Kd.R (Kd.int .i64) 3 w' w.heap.size (fun k_ => some k_ ≠ (s_.1 : Value).ownBlock) (.slice Ao54 t275.length co54) t275) ∧ (Kd.R (Kd.int .u8) 5 w' w.heap.size (fun k_ => some k_ ≠ (s_.2.1 : Value).ownBlock ∧ some k_ ≠ (s_.2.2.1 : Value).ownBlock ∧ some k_ ≠ (.slice Ao44 t236.length co44 : Value).ownBlock ∧ some k_ ≠ (.slice Ao74 t256.length co74 : Value).ownBlock) (.slice Ao64 t277.length co64) t277) ∧ (Kd.R (Kd.int .u8) 5 w' w.heap.size (fun k_ => some k_ ≠ (s_.2.1 : Value).ownBlock ∧ some k_ ≠ (s_.2.2.1 : Value).ownBlock ∧ some k_ ≠ (.slice Ao44 t236.length co44 : Value).ownBlock ∧ some k_ ≠ (.slice Ao64 t277.length co64 : Value).ownBlock) (.slice Ao74 t256.length co74) t280) ∧ (w'.heap[gb219]? = some (.cells #[.int .i64 a0_0, .slice A0_1 l0_1.length c0_1] 44 (0, 0))) ∧ (w'.heap[gb220]? = some (.cells #[.int .i64 a1_0, .int .i64 a1_1, .int .i64 a1_2, .slice A1_3 l1_3.length c1_3] 45 (0, 0))) ∧ (w'.heap[gb240]? = some (.cells #[.int .i64 t233, .int .i64 t234, .int .i64 t235, .slice Ao44 t236.length co44] 28 (0, 0))) ∧ (w'.heap[gb245]? = some (.cells #[.int .i64 t241, .slice Ao54 t275.length co54] 26 (0, 0))) ∧ (w'.heap[gb252]? = some (.cells #[.int .i64 t246, .int .i64 t247, .int .i64 t248, .slice Ao64 t277.length co64] 28 (0, 0))) ∧ (w'.heap[gb260]? = some (.cells #[.int .i64 t253, .int .i64 t254, .int .i64 t255, .slice Ao74 t256.length co74] 28 (0, 0))) ∧ (w'.heap[s_.2.2.2]? = some (.cells #[.int .i64 0, .int .i64 0, .int .i64 0, .slice none 0 0] 28 (0, 0))) ∧ (w.heap.size ≤ s_.2.2.2) ∧ (w.heap.size ≤ s_.2.2.2) ∧ (gb219 ≠ s_.2.2.2) ∧ (s_.2.2.2 ≠ gb219) ∧ (gb220 ≠ s_.2.2.2) ∧ (s_.2.2.2 ≠ gb220) ∧ (gb240 ≠ s_.2.2.2) ∧ (s_.2.2.2 ≠ gb240) ∧ (gb245 ≠ s_.2.2.2) ∧ (s_.2.2.2 ≠ gb245) ∧ (gb252 ≠ s_.2.2.2) ∧ (s_.2.2.2 ≠ gb252) ∧ (gb260 ≠ s_.2.2.2) ∧ (s_.2.2.2 ≠ gb260) ∧ (Below w.heap.size w w')) ?_ ?_
     rotate_left
     ·intro hCont
      refine two_ (i := 1) (j := 8) (Ni := some 96) (Nj := some 15) #[Y,Y,Y,U,U,U,U,U,U,U,U] #[Y,U,Y,U,U,U,U,U,Y,U,U] rfl rfl rfl rfl (two_of HT_.out (by kernel_rfl)) (by decide) (by decide) (fun K hK => ?_) (fun K hK => ?_)
      ·skip
       refine goes_ Try.func32 (by kernel_rfl) rfl #[.agg #[.int .i64 a0_0, .slice A0_1 l0_1.length c0_1]] (by rfl) rfl rfl xR ?_
       with_reducible refine (laws_toMember.calls kj109 a0_0 _ _ l0_1 t282 t283 _ ?side1 ?side2 A173.out).mono ?_
       (case side1 => repeat (first | exact (cB HR0_1.out HB.out) | (with_reducible refine Kd.C_alloc ?_ _) | (with_reducible refine Kd.C_drewN ?_ _) | (with_reducible refine Kd.C_drew ?_)))
       (case side2 => exact HC0_1.out)
       rintro e w187 ⟨v284, rfl, ho0, hb⟩
       refine ⟨_, rfl, ?_⟩
       have n0_ := aM (kB (kr HO_241003.out) hb)
       have n1_ := aM (Kd.R_elder' (kr HO_246001.out) (Kd.R_base ho0) hb)
       have n2_ := aM (kB (kr HO_253003.out) hb)
       have n3_ := aM (kB (kr HO_261003.out) hb)
       have n4_ := aM (Kd.R_lower (Kd.R_new' ho0 (Kd.R_lt (kr HO_246001.out))) (below_size (bl HB.out)))
       have n5_ := aM (bB (g := gb219) (o := .cells #[.int .i64 a0_0, .slice A0_1 l0_1.length c0_1] 44 (0, 0)) (bk BK219.out) hb)
       have n6_ := aM (bB (g := gb220) (o := .cells #[.int .i64 a1_0, .int .i64 a1_1, .int .i64 a1_2, .slice A1_3 l1_3.length c1_3] 45 (0, 0)) (bk BK220.out) hb)
       have n7_ := aM (bB (g := gb240) (o := .cells #[.int .i64 t233, .int .i64 t234, .int .i64 t235, .slice Ao44 t236.length co44] 28 (0, 0)) (bk BK240.out) hb)
       have n8_ := aM (bB (g := gb245) (o := .cells #[.int .i64 t241, .slice Ao54 t275.length co54] 26 (0, 0)) (bk BK245.out) hb)
       have n9_ := aM (bB (g := gb252) (o := .cells #[.int .i64 t246, .int .i64 t247, .int .i64 t248, .slice Ao64 t277.length co64] 28 (0, 0)) (bk BK252.out) hb)
       have n10_ := aM (bB (g := gb260) (o := .cells #[.int .i64 t253, .int .i64 t254, .int .i64 t255, .slice Ao74 t256.length co74] 28 (0, 0)) (bk BK260.out) hb)
       have n11_ := aM (bS (bl HB.out) hb)
       clear HO_241003 HO_246001
       clear HO_253003 HO_261003
       clear BK219 BK220
       clear BK240 BK245
       clear BK252 BK260 HB
       have HO_241003 := n0_
       have HO_246001 := n1_
       have HO_253003 := n2_
       have HO_261003 := n3_
       have HO285 := n4_
       have BK219 := n5_
       have BK220 := n6_
       have BK240 := n7_
       have BK245 := n8_
       have BK252 := n9_
       have BK260 := n10_
       have HB := n11_
       clear n0_ n1_ n2_ n3_ n4_ n5_ n6_ n7_ n8_ n9_ n10_ n11_
       (try clear hb)
       (try clear hb2)
       (try clear hk)
       (try clear hi)
       (try clear ho0)
       refine hK.out _ _ ⟨cI BK219.out 0, cI BK219.out 1, cI BK220.out 0, cI BK220.out 1, cI BK220.out 2, cI BK220.out 3⟩ (fun hHeld => ?_)
       clear hK K
       refine norm_ (a' := ?_) ?_ ?_
       rotate_left
       ·show Act.put _ (some 96) _ = _
        simp only [Act.put, sA, sZ, sS, i64_w, i32_w]
        rfl
       refine two_ (i := 3) (j := 8) (Ni := some 98) (Nj := some 15) #[Y,Y,Y,Y,U,U,U,U,U,U,U] #[Y,Y,Y,U,U,U,U,U,Y,U,U] rfl rfl rfl rfl (two_of HT_.out (by kernel_rfl)) (by decide) (by decide) (fun K hK => ?_) (fun K hK => ?_)
       ·skip
        refine goes_ Try.func33 (by kernel_rfl) rfl #[.agg #[.int .i64 a1_0, .int .i64 a1_1, .int .i64 a1_2, .slice A1_3 l1_3.length c1_3]] (by rfl) rfl rfl xR ?_
        with_reducible refine (laws_toFrame.calls kj109 a1_0 a1_1 a1_2 _ _ l1_3 t286 t287 t288 t289 _ ?side1 ?side2 A174.out).mono ?_
        (case side1 => repeat (first | exact (cB HR1_3.out HB.out) | (with_reducible refine Kd.C_alloc ?_ _) | (with_reducible refine Kd.C_drewN ?_ _) | (with_reducible refine Kd.C_drew ?_)))
        (case side2 => exact HC1_3.out)
        rintro e w188 ⟨v290, rfl, ho0, hb⟩
        refine ⟨_, rfl, ?_⟩
        have n0_ := aM (Kd.R_elder' (kr HO_241003.out) (Kd.R_base ho0) hb)
        have n1_ := aM (kB (kr HO_246001.out) hb)
        have n2_ := aM (Kd.R_elder' (kr HO_253003.out) (Kd.R_base ho0) hb)
        have n3_ := aM (Kd.R_elder' (kr HO_261003.out) (Kd.R_base ho0) hb)
        have n4_ := aM (kB (kr HO285.out) hb)
        have n5_ := aM (Kd.R_lower (Kd.R_new' (Kd.R_new' (Kd.R_new' ho0 (Kd.R_lt (kr HO_241003.out))) (Kd.R_lt (kr HO_253003.out))) (Kd.R_lt (kr HO_261003.out))) (below_size (bl HB.out)))
        have n6_ := aM (bB (g := gb219) (o := .cells #[.int .i64 a0_0, .slice A0_1 l0_1.length c0_1] 44 (0, 0)) (bk BK219.out) hb)
        have n7_ := aM (bB (g := gb220) (o := .cells #[.int .i64 a1_0, .int .i64 a1_1, .int .i64 a1_2, .slice A1_3 l1_3.length c1_3] 45 (0, 0)) (bk BK220.out) hb)
        have n8_ := aM (bB (g := gb240) (o := .cells #[.int .i64 t233, .int .i64 t234, .int .i64 t235, .slice Ao44 t236.length co44] 28 (0, 0)) (bk BK240.out) hb)
        have n9_ := aM (bB (g := gb245) (o := .cells #[.int .i64 t241, .slice Ao54 t275.length co54] 26 (0, 0)) (bk BK245.out) hb)
        have n10_ := aM (bB (g := gb252) (o := .cells #[.int .i64 t246, .int .i64 t247, .int .i64 t248, .slice Ao64 t277.length co64] 28 (0, 0)) (bk BK252.out) hb)
        have n11_ := aM (bB (g := gb260) (o := .cells #[.int .i64 t253, .int .i64 t254, .int .i64 t255, .slice Ao74 t256.length co74] 28 (0, 0)) (bk BK260.out) hb)
        have n12_ := aM (bS (bl HB.out) hb)
        clear HO_241003 HO_246001
        clear HO_253003 HO_261003
        clear HO285 BK219
        clear BK220 BK240
        clear BK245 BK252
        clear BK260 HB
        have HO_241003 := n0_
        have HO_246001 := n1_
        have HO_253003 := n2_
        have HO_261003 := n3_
        have HO285 := n4_
        have HO291 := n5_
        have BK219 := n6_
        have BK220 := n7_
        have BK240 := n8_
        have BK245 := n9_
        have BK252 := n10_
        have BK260 := n11_
        have HB := n12_
        clear n0_ n1_ n2_ n3_ n4_ n5_ n6_ n7_ n8_ n9_ n10_ n11_ n12_
        (try clear hb)
        (try clear hb2)
        (try clear hk)
        (try clear hi)
        (try clear ho0)
        obtain ⟨Ao189, co189, eo189⟩ := Kd.R_slice HO285.out
        (first | subst eo189 | (injection eo189 with f1_ f2_ f3_; have f4_ := f1_.symm; have f5_ := f3_.symm; clear f1_ f2_ f3_; subst f4_; subst f5_))
        obtain ⟨Ao190, co190, eo190⟩ := Kd.R_slice HO291.out
        (first | subst eo190 | (injection eo190 with f1_ f2_ f3_; have f4_ := f1_.symm; have f5_ := f3_.symm; clear f1_ f2_ f3_; subst f4_; subst f5_))
        refine hK.out _ _ ⟨cI BK219.out 0, cI BK219.out 1, cI BK220.out 0, cI BK220.out 1, cI BK220.out 2, cI BK220.out 3⟩ (fun hHeld => ?_)
        clear hK K
        refine norm_ (a' := ?_) ?_ ?_
        rotate_left
        ·show Act.put _ (some 98) _ = _
         simp only [Act.put, sA, sZ, sS, i64_w, i32_w]
         rfl
        refine two_ (i := 4) (j := 8) (Ni := some 99) (Nj := some 15) #[Y,Y,Y,Y,Y,U,U,U,U,U,U] #[Y,Y,Y,Y,U,U,U,U,Y,U,U] rfl rfl rfl rfl (two_of HT_.out (by kernel_rfl)) (by decide) (by decide) (fun K hK => ?_) (fun K hK => ?_)
        ·skip
         refine goes_ Try.func14 (by kernel_rfl) rfl #[.agg #[.int .i64 t282, .slice Ao189 t283.length co189], .agg #[.int .i64 t286, .int .i64 t287, .int .i64 t288, .slice Ao190 t289.length co190]] (by rfl) rfl rfl xR ?_
         with_reducible refine (impl_Outside.calls kj109 t282 _ _ t283 t286 t287 t288 _ _ t289 t292 t293 t294 t295 t298 _ ?side1 ?side2 ?side3 ?side4 A175.out).mono ?_
         (case side1 => repeat (first | exact (Kd.R_reads' HO285.out).2.2 | (with_reducible refine Kd.C_alloc ?_ _) | (with_reducible refine Kd.C_drewN ?_ _) | (with_reducible refine Kd.C_drew ?_)))
         (case side2 => exact (Kd.R_reads' HO285.out).2.1)
         (case side3 => repeat (first | exact (Kd.R_reads' HO291.out).2.2 | (with_reducible refine Kd.C_alloc ?_ _) | (with_reducible refine Kd.C_drewN ?_ _) | (with_reducible refine Kd.C_drew ?_)))
         (case side4 => exact (Kd.R_reads' HO291.out).2.1)
         rintro e w191 ⟨v296, rfl, ho0, hb⟩
         refine ⟨_, rfl, ?_⟩
         have n0_ := aM (Kd.R_elder' (kr HO_241003.out) (Kd.R_base ho0) hb)
         have n1_ := aM (kB (kr HO_246001.out) hb)
         have n2_ := aM (Kd.R_elder' (kr HO_253003.out) (Kd.R_base ho0) hb)
         have n3_ := aM (Kd.R_elder' (kr HO_261003.out) (Kd.R_base ho0) hb)
         have n4_ := aM (kB (kr HO285.out) hb)
         have n5_ := aM (Kd.R_elder' (kr HO291.out) (Kd.R_base ho0) hb)
         have n6_ := aM (Kd.R_lower (Kd.R_new' (Kd.R_new' (Kd.R_new' (Kd.R_new' ho0 (Kd.R_lt (kr HO_241003.out))) (Kd.R_lt (kr HO_253003.out))) (Kd.R_lt (kr HO_261003.out))) (Kd.R_lt (kr HO291.out))) (below_size (bl HB.out)))
         have n7_ := aM (bB (g := gb219) (o := .cells #[.int .i64 a0_0, .slice A0_1 l0_1.length c0_1] 44 (0, 0)) (bk BK219.out) hb)
         have n8_ := aM (bB (g := gb220) (o := .cells #[.int .i64 a1_0, .int .i64 a1_1, .int .i64 a1_2, .slice A1_3 l1_3.length c1_3] 45 (0, 0)) (bk BK220.out) hb)
         have n9_ := aM (bB (g := gb240) (o := .cells #[.int .i64 t233, .int .i64 t234, .int .i64 t235, .slice Ao44 t236.length co44] 28 (0, 0)) (bk BK240.out) hb)
         have n10_ := aM (bB (g := gb245) (o := .cells #[.int .i64 t241, .slice Ao54 t275.length co54] 26 (0, 0)) (bk BK245.out) hb)
         have n11_ := aM (bB (g := gb252) (o := .cells #[.int .i64 t246, .int .i64 t247, .int .i64 t248, .slice Ao64 t277.length co64] 28 (0, 0)) (bk BK252.out) hb)
         have n12_ := aM (bB (g := gb260) (o := .cells #[.int .i64 t253, .int .i64 t254, .int .i64 t255, .slice Ao74 t256.length co74] 28 (0, 0)) (bk BK260.out) hb)
         have n13_ := aM (bS (bl HB.out) hb)
         clear HO_241003 HO_246001
         clear HO_253003 HO_261003
         clear HO285 HO291
         clear BK219 BK220
         clear BK240 BK245
         clear BK252 BK260 HB
         have HO_241003 := n0_
         have HO_246001 := n1_
         have HO_253003 := n2_
         have HO_261003 := n3_
         have HO285 := n4_
         have HO291 := n5_
         have HO297 := n6_
         have BK219 := n7_
         have BK220 := n8_
         have BK240 := n9_
         have BK245 := n10_
         have BK252 := n11_
         have BK260 := n12_
         have HB := n13_
         clear n0_ n1_ n2_ n3_ n4_ n5_ n6_ n7_ n8_ n9_ n10_ n11_ n12_ n13_
         (try clear hb)
         (try clear hb2)
         (try clear hk)
         (try clear hi)
         (try clear ho0)
         refine hK.out _ _ ⟨cI BK219.out 0, cI BK219.out 1, cI BK220.out 0, cI BK220.out 1, cI BK220.out 2, cI BK220.out 3⟩ (fun hHeld => ?_)
         clear hK K
         refine norm_ (a' := ?_) ?_ ?_
         rotate_left
         ·show Act.put _ (some 99) _ = _
          simp only [Act.put, sA, sZ, sS, i64_w, i32_w]
          rfl
         refine pure_ (i := 5) (N := some 94) (v := ?_) (a' := ?_) #[Y,Y,Y,Y,Y,Y,U,U,U,U,U] rfl rfl (any_of HT_.out (by kernel_rfl)) (fun _ _ _ h => h) (Or.inl ⟨by rfl, ?_⟩) ?_ ?_
         rotate_left
         ·intro w'
          go_simp
          with_reducible rfl
         rotate_left
         ·simp only [Act.put, sA, sZ, sS, i64_w, i32_w]
          rfl
         refine pure_ (i := 6) (N := some 100) (v := ?_) (a' := ?_) #[Y,Y,Y,Y,Y,Y,Y,U,U,U,U] rfl rfl (any_of HT_.out (by kernel_rfl)) (fun _ _ _ h => h) (Or.inl ⟨by rfl, ?_⟩) ?_ ?_
         rotate_left
         ·intro w'
          go_simp
          with_reducible rfl
         rotate_left
         ·simp only [Act.put, sA, sZ, sS, i64_w, i32_w]
          rfl
         refine pure_ (i := 7) (N := some 101) (v := ?_) (a' := ?_) #[Y,Y,Y,Y,Y,Y,Y,Y,U,U,U] rfl rfl (any_of HT_.out (by kernel_rfl)) (fun _ _ _ h => h) (Or.inl ⟨by rfl, ?_⟩) ?_ ?_
         rotate_left
         ·intro w'
          go_simp
          with_reducible rfl
         rotate_left
         ·simp only [Act.put, sA, sZ, sS, i64_w, i32_w]
          rfl
         refine one_ (i := 8) (N := some 15) #[Y,Y,Y,Y,Y,Y,Y,Y,Y,U,U] rfl rfl (one_of HT_.out (by kernel_rfl)) (by decide) (fun K hK => ?_)
         refine box_step ?hg (N := 15) ?hd (cs := #[.int .i64 0, .int .i64 0, .int .i64 0, .slice none 0 0]) (t := 28) ?hr ?_; (case hd => rfl); (case hg => rfl); (case hr => first | (go_simp; done) | (go_simp; rfl))
         intro gb299 hg w192 hbox hb
         have n0_ := aM (kB (kr HO_241003.out) hb)
         have n1_ := aM (kB (kr HO_246001.out) hb)
         have n2_ := aM (kB (kr HO_253003.out) hb)
         have n3_ := aM (kB (kr HO_261003.out) hb)
         have n4_ := aM (kB (kr HO285.out) hb)
         have n5_ := aM (kB (kr HO291.out) hb)
         have n6_ := aM (kB (kr HO297.out) hb)
         have n7_ := aM (bB (g := gb219) (o := .cells #[.int .i64 a0_0, .slice A0_1 l0_1.length c0_1] 44 (0, 0)) (bk BK219.out) hb)
         have n8_ := aM (bB (g := gb220) (o := .cells #[.int .i64 a1_0, .int .i64 a1_1, .int .i64 a1_2, .slice A1_3 l1_3.length c1_3] 45 (0, 0)) (bk BK220.out) hb)
         have n9_ := aM (bB (g := gb240) (o := .cells #[.int .i64 t233, .int .i64 t234, .int .i64 t235, .slice Ao44 t236.length co44] 28 (0, 0)) (bk BK240.out) hb)
         have n10_ := aM (bB (g := gb245) (o := .cells #[.int .i64 t241, .slice Ao54 t275.length co54] 26 (0, 0)) (bk BK245.out) hb)
         have n11_ := aM (bB (g := gb252) (o := .cells #[.int .i64 t246, .int .i64 t247, .int .i64 t248, .slice Ao64 t277.length co64] 28 (0, 0)) (bk BK252.out) hb)
         have n12_ := aM (bB (g := gb260) (o := .cells #[.int .i64 t253, .int .i64 t254, .int .i64 t255, .slice Ao74 t256.length co74] 28 (0, 0)) (bk BK260.out) hb)
         have n13_ := aM (bS (bl HB.out) hb)
         have n14_ := aM (hbox)
         have n15_ := aM ((by rw [hg]; exact (below_size (bl HB.out)) : w.heap.size ≤ gb299))
         have n16_ := aM ((by rw [hg]; exact (below_size (bl HB.out)) : w.heap.size ≤ gb299))
         have n17_ := aM ((by rw [hg]; exact Nat.ne_of_lt (blk_lt (g := gb219) (o := .cells #[.int .i64 a0_0, .slice A0_1 l0_1.length c0_1] 44 (0, 0)) (bk BK219.out)) : gb219 ≠ gb299))
         have n18_ := aM ((by rw [hg]; exact Nat.ne_of_gt (blk_lt (g := gb219) (o := .cells #[.int .i64 a0_0, .slice A0_1 l0_1.length c0_1] 44 (0, 0)) (bk BK219.out)) : gb299 ≠ gb219))
         have n19_ := aM ((by rw [hg]; exact Nat.ne_of_lt (blk_lt (g := gb220) (o := .cells #[.int .i64 a1_0, .int .i64 a1_1, .int .i64 a1_2, .slice A1_3 l1_3.length c1_3] 45 (0, 0)) (bk BK220.out)) : gb220 ≠ gb299))
         have n20_ := aM ((by rw [hg]; exact Nat.ne_of_gt (blk_lt (g := gb220) (o := .cells #[.int .i64 a1_0, .int .i64 a1_1, .int .i64 a1_2, .slice A1_3 l1_3.length c1_3] 45 (0, 0)) (bk BK220.out)) : gb299 ≠ gb220))
         have n21_ := aM ((by rw [hg]; exact Nat.ne_of_lt (blk_lt (g := gb240) (o := .cells #[.int .i64 t233, .int .i64 t234, .int .i64 t235, .slice Ao44 t236.length co44] 28 (0, 0)) (bk BK240.out)) : gb240 ≠ gb299))
         have n22_ := aM ((by rw [hg]; exact Nat.ne_of_gt (blk_lt (g := gb240) (o := .cells #[.int .i64 t233, .int .i64 t234, .int .i64 t235, .slice Ao44 t236.length co44] 28 (0, 0)) (bk BK240.out)) : gb299 ≠ gb240))
         have n23_ := aM ((by rw [hg]; exact Nat.ne_of_lt (blk_lt (g := gb245) (o := .cells #[.int .i64 t241, .slice Ao54 t275.length co54] 26 (0, 0)) (bk BK245.out)) : gb245 ≠ gb299))
         have n24_ := aM ((by rw [hg]; exact Nat.ne_of_gt (blk_lt (g := gb245) (o := .cells #[.int .i64 t241, .slice Ao54 t275.length co54] 26 (0, 0)) (bk BK245.out)) : gb299 ≠ gb245))
         have n25_ := aM ((by rw [hg]; exact Nat.ne_of_lt (blk_lt (g := gb252) (o := .cells #[.int .i64 t246, .int .i64 t247, .int .i64 t248, .slice Ao64 t277.length co64] 28 (0, 0)) (bk BK252.out)) : gb252 ≠ gb299))
         have n26_ := aM ((by rw [hg]; exact Nat.ne_of_gt (blk_lt (g := gb252) (o := .cells #[.int .i64 t246, .int .i64 t247, .int .i64 t248, .slice Ao64 t277.length co64] 28 (0, 0)) (bk BK252.out)) : gb299 ≠ gb252))
         have n27_ := aM ((by rw [hg]; exact Nat.ne_of_lt (blk_lt (g := gb260) (o := .cells #[.int .i64 t253, .int .i64 t254, .int .i64 t255, .slice Ao74 t256.length co74] 28 (0, 0)) (bk BK260.out)) : gb260 ≠ gb299))
         have n28_ := aM ((by rw [hg]; exact Nat.ne_of_gt (blk_lt (g := gb260) (o := .cells #[.int .i64 t253, .int .i64 t254, .int .i64 t255, .slice Ao74 t256.length co74] 28 (0, 0)) (bk BK260.out)) : gb299 ≠ gb260))
         clear HO_241003 HO_246001
         clear HO_253003 HO_261003
         clear HO285 HO291
         clear HO297 BK219
         clear BK220 BK240
         clear BK245 BK252
         clear BK260 HB
         have HO_241003 := n0_
         have HO_246001 := n1_
         have HO_253003 := n2_
         have HO_261003 := n3_
         have HO285 := n4_
         have HO291 := n5_
         have HO297 := n6_
         have BK219 := n7_
         have BK220 := n8_
         have BK240 := n9_
         have BK245 := n10_
         have BK252 := n11_
         have BK260 := n12_
         have HB := n13_
         have BK299 := n14_
         have GW299 := n15_
         have GE299 := n16_
         have NB219_299 := n17_
         have NB299_219 := n18_
         have NB220_299 := n19_
         have NB299_220 := n20_
         have NB240_299 := n21_
         have NB299_240 := n22_
         have NB245_299 := n23_
         have NB299_245 := n24_
         have NB252_299 := n25_
         have NB299_252 := n26_
         have NB260_299 := n27_
         have NB299_260 := n28_
         clear n0_ n1_ n2_ n3_ n4_ n5_ n6_ n7_ n8_ n9_ n10_ n11_ n12_ n13_ n14_ n15_ n16_ n17_ n18_ n19_ n20_ n21_ n22_ n23_ n24_ n25_ n26_ n27_ n28_
         clear hb hbox hg
         refine hK.out _ _ ⟨cI BK219.out 0, cI BK219.out 1, cI BK220.out 0, cI BK220.out 1, cI BK220.out 2, cI BK220.out 3⟩ (fun hHeld => ?_)
         clear hK K
         refine norm_ (a' := ?_) ?_ ?_
         rotate_left
         ·show Act.put _ (some 15) _ = _
          simp only [Act.put, sA, sZ, sS, i64_w, i32_w]
          rfl
         exact norm_ (by simp only [putAll, Act.put, sA, sZ, sS]) (hCont (.slice Ao189 t283.length co189, .slice Ao190 t289.length co190, v296, gb299) _ ⟨hHeld, (kr (Kd.R_mono HO285.out (fun _ hk => hk.2))), (kr (Kd.R_mono HO291.out (fun _ hk => ⟨hk.2, ⟨hk.1.1.1.2, ⟨hk.1.1.2, hk.1.2⟩⟩⟩))), (kr (Kd.R_mono HO297.out (fun _ hk => ⟨hk.2, ⟨hk.1.1.1.2, ⟨hk.1.1.2, hk.1.2⟩⟩⟩))), (kr (Kd.R_mono HO_241003.out (fun _ hk => ⟨hk.1.2, ⟨hk.2, ⟨hk.1.1.1, hk.1.1.2⟩⟩⟩))), (kr (Kd.R_mono HO_246001.out (fun _ hk => hk.2))), (kr (Kd.R_mono HO_253003.out (fun _ hk => ⟨hk.1.2, ⟨hk.2, ⟨hk.1.1.1, hk.1.1.2⟩⟩⟩))), (kr (Kd.R_mono HO_261003.out (fun _ hk => ⟨hk.1.2, ⟨hk.2, ⟨hk.1.1.1, hk.1.1.2⟩⟩⟩))), (bk BK219.out), (bk BK220.out), (bk BK240.out), (bk BK245.out), (bk BK252.out), (bk BK260.out), (bk BK299.out), GW299.out, GE299.out, NB219_299.out, NB299_219.out, NB220_299.out, NB299_220.out, NB240_299.out, NB299_240.out, NB245_299.out, NB299_245.out, NB252_299.out, NB299_252.out, NB260_299.out, NB299_260.out, (bl HB.out)⟩)
        ·skip
         refine box_step ?hg (N := 15) ?hd (cs := #[.int .i64 0, .int .i64 0, .int .i64 0, .slice none 0 0]) (t := 28) ?hr ?_; (case hd => rfl); (case hg => rfl); (case hr => first | (go_simp; done) | (go_simp; rfl))
         intro gb299 hg w189 hbox hb
         have n0_ := aM (kB (kr HO_241003.out) hb)
         have n1_ := aM (kB (kr HO_246001.out) hb)
         have n2_ := aM (kB (kr HO_253003.out) hb)
         have n3_ := aM (kB (kr HO_261003.out) hb)
         have n4_ := aM (kB (kr HO285.out) hb)
         have n5_ := aM (kB (kr HO291.out) hb)
         have n6_ := aM (bB (g := gb219) (o := .cells #[.int .i64 a0_0, .slice A0_1 l0_1.length c0_1] 44 (0, 0)) (bk BK219.out) hb)
         have n7_ := aM (bB (g := gb220) (o := .cells #[.int .i64 a1_0, .int .i64 a1_1, .int .i64 a1_2, .slice A1_3 l1_3.length c1_3] 45 (0, 0)) (bk BK220.out) hb)
         have n8_ := aM (bB (g := gb240) (o := .cells #[.int .i64 t233, .int .i64 t234, .int .i64 t235, .slice Ao44 t236.length co44] 28 (0, 0)) (bk BK240.out) hb)
         have n9_ := aM (bB (g := gb245) (o := .cells #[.int .i64 t241, .slice Ao54 t275.length co54] 26 (0, 0)) (bk BK245.out) hb)
         have n10_ := aM (bB (g := gb252) (o := .cells #[.int .i64 t246, .int .i64 t247, .int .i64 t248, .slice Ao64 t277.length co64] 28 (0, 0)) (bk BK252.out) hb)
         have n11_ := aM (bB (g := gb260) (o := .cells #[.int .i64 t253, .int .i64 t254, .int .i64 t255, .slice Ao74 t256.length co74] 28 (0, 0)) (bk BK260.out) hb)
         have n12_ := aM (bS (bl HB.out) hb)
         have n13_ := aM (hbox)
         have n14_ := aM ((by rw [hg]; exact (below_size (bl HB.out)) : w.heap.size ≤ gb299))
         have n15_ := aM ((by rw [hg]; exact (below_size (bl HB.out)) : w.heap.size ≤ gb299))
         have n16_ := aM ((by rw [hg]; exact Nat.ne_of_lt (blk_lt (g := gb219) (o := .cells #[.int .i64 a0_0, .slice A0_1 l0_1.length c0_1] 44 (0, 0)) (bk BK219.out)) : gb219 ≠ gb299))
         have n17_ := aM ((by rw [hg]; exact Nat.ne_of_gt (blk_lt (g := gb219) (o := .cells #[.int .i64 a0_0, .slice A0_1 l0_1.length c0_1] 44 (0, 0)) (bk BK219.out)) : gb299 ≠ gb219))
         have n18_ := aM ((by rw [hg]; exact Nat.ne_of_lt (blk_lt (g := gb220) (o := .cells #[.int .i64 a1_0, .int .i64 a1_1, .int .i64 a1_2, .slice A1_3 l1_3.length c1_3] 45 (0, 0)) (bk BK220.out)) : gb220 ≠ gb299))
         have n19_ := aM ((by rw [hg]; exact Nat.ne_of_gt (blk_lt (g := gb220) (o := .cells #[.int .i64 a1_0, .int .i64 a1_1, .int .i64 a1_2, .slice A1_3 l1_3.length c1_3] 45 (0, 0)) (bk BK220.out)) : gb299 ≠ gb220))
         have n20_ := aM ((by rw [hg]; exact Nat.ne_of_lt (blk_lt (g := gb240) (o := .cells #[.int .i64 t233, .int .i64 t234, .int .i64 t235, .slice Ao44 t236.length co44] 28 (0, 0)) (bk BK240.out)) : gb240 ≠ gb299))
         have n21_ := aM ((by rw [hg]; exact Nat.ne_of_gt (blk_lt (g := gb240) (o := .cells #[.int .i64 t233, .int .i64 t234, .int .i64 t235, .slice Ao44 t236.length co44] 28 (0, 0)) (bk BK240.out)) : gb299 ≠ gb240))
         have n22_ := aM ((by rw [hg]; exact Nat.ne_of_lt (blk_lt (g := gb245) (o := .cells #[.int .i64 t241, .slice Ao54 t275.length co54] 26 (0, 0)) (bk BK245.out)) : gb245 ≠ gb299))
         have n23_ := aM ((by rw [hg]; exact Nat.ne_of_gt (blk_lt (g := gb245) (o := .cells #[.int .i64 t241, .slice Ao54 t275.length co54] 26 (0, 0)) (bk BK245.out)) : gb299 ≠ gb245))
         have n24_ := aM ((by rw [hg]; exact Nat.ne_of_lt (blk_lt (g := gb252) (o := .cells #[.int .i64 t246, .int .i64 t247, .int .i64 t248, .slice Ao64 t277.length co64] 28 (0, 0)) (bk BK252.out)) : gb252 ≠ gb299))
         have n25_ := aM ((by rw [hg]; exact Nat.ne_of_gt (blk_lt (g := gb252) (o := .cells #[.int .i64 t246, .int .i64 t247, .int .i64 t248, .slice Ao64 t277.length co64] 28 (0, 0)) (bk BK252.out)) : gb299 ≠ gb252))
         have n26_ := aM ((by rw [hg]; exact Nat.ne_of_lt (blk_lt (g := gb260) (o := .cells #[.int .i64 t253, .int .i64 t254, .int .i64 t255, .slice Ao74 t256.length co74] 28 (0, 0)) (bk BK260.out)) : gb260 ≠ gb299))
         have n27_ := aM ((by rw [hg]; exact Nat.ne_of_gt (blk_lt (g := gb260) (o := .cells #[.int .i64 t253, .int .i64 t254, .int .i64 t255, .slice Ao74 t256.length co74] 28 (0, 0)) (bk BK260.out)) : gb299 ≠ gb260))
         clear HO_241003 HO_246001
         clear HO_253003 HO_261003
         clear HO285 HO291
         clear BK219 BK220
         clear BK240 BK245
         clear BK252 BK260 HB
         have HO_241003 := n0_
         have HO_246001 := n1_
         have HO_253003 := n2_
         have HO_261003 := n3_
         have HO285 := n4_
         have HO291 := n5_
         have BK219 := n6_
         have BK220 := n7_
         have BK240 := n8_
         have BK245 := n9_
         have BK252 := n10_
         have BK260 := n11_
         have HB := n12_
         have BK299 := n13_
         have GW299 := n14_
         have GE299 := n15_
         have NB219_299 := n16_
         have NB299_219 := n17_
         have NB220_299 := n18_
         have NB299_220 := n19_
         have NB240_299 := n20_
         have NB299_240 := n21_
         have NB245_299 := n22_
         have NB299_245 := n23_
         have NB252_299 := n24_
         have NB299_252 := n25_
         have NB260_299 := n26_
         have NB299_260 := n27_
         clear n0_ n1_ n2_ n3_ n4_ n5_ n6_ n7_ n8_ n9_ n10_ n11_ n12_ n13_ n14_ n15_ n16_ n17_ n18_ n19_ n20_ n21_ n22_ n23_ n24_ n25_ n26_ n27_
         clear hb hbox hg
         obtain ⟨Ao190, co190, eo190⟩ := Kd.R_slice HO285.out
         (first | subst eo190 | (injection eo190 with f1_ f2_ f3_; have f4_ := f1_.symm; have f5_ := f3_.symm; clear f1_ f2_ f3_; subst f4_; subst f5_))
         obtain ⟨Ao191, co191, eo191⟩ := Kd.R_slice HO291.out
         (first | subst eo191 | (injection eo191 with f1_ f2_ f3_; have f4_ := f1_.symm; have f5_ := f3_.symm; clear f1_ f2_ f3_; subst f4_; subst f5_))
         refine hK.out _ _ ⟨cI BK219.out 0, cI BK219.out 1, cI BK220.out 0, cI BK220.out 1, cI BK220.out 2, cI BK220.out 3⟩ (fun hHeld => ?_)
         clear hK K
         refine norm_ (a' := ?_) ?_ ?_
         rotate_left
         ·show Act.put _ (some 15) _ = _
          simp only [Act.put, sA, sZ, sS, i64_w, i32_w]
          rfl
         refine one_ (i := 4) (N := some 99) #[Y,Y,Y,Y,Y,U,U,U,Y,U,U] rfl rfl (one_of HT_.out (by kernel_rfl)) (by decide) (fun K hK => ?_)
         refine goes_ Try.func14 (by kernel_rfl) rfl #[.agg #[.int .i64 t282, .slice Ao190 t283.length co190], .agg #[.int .i64 t286, .int .i64 t287, .int .i64 t288, .slice Ao191 t289.length co191]] (by rfl) rfl rfl xR ?_
         with_reducible refine (impl_Outside.calls kj109 t282 _ _ t283 t286 t287 t288 _ _ t289 t292 t293 t294 t295 t298 _ ?side1 ?side2 ?side3 ?side4 A175.out).mono ?_
         (case side1 => repeat (first | exact (Kd.R_reads' HO285.out).2.2 | (with_reducible refine Kd.C_alloc ?_ _) | (with_reducible refine Kd.C_drewN ?_ _) | (with_reducible refine Kd.C_drew ?_)))
         (case side2 => exact (Kd.R_reads' HO285.out).2.1)
         (case side3 => repeat (first | exact (Kd.R_reads' HO291.out).2.2 | (with_reducible refine Kd.C_alloc ?_ _) | (with_reducible refine Kd.C_drewN ?_ _) | (with_reducible refine Kd.C_drew ?_)))
         (case side4 => exact (Kd.R_reads' HO291.out).2.1)
         rintro e w192 ⟨v296, rfl, ho0, hb⟩
         refine ⟨_, rfl, ?_⟩
         have n0_ := aM (Kd.R_elder' (kr HO_241003.out) (Kd.R_base ho0) hb)
         have n1_ := aM (kB (kr HO_246001.out) hb)
         have n2_ := aM (Kd.R_elder' (kr HO_253003.out) (Kd.R_base ho0) hb)
         have n3_ := aM (Kd.R_elder' (kr HO_261003.out) (Kd.R_base ho0) hb)
         have n4_ := aM (kB (kr HO285.out) hb)
         have n5_ := aM (Kd.R_elder' (kr HO291.out) (Kd.R_base ho0) hb)
         have n6_ := aM (Kd.R_lower (Kd.R_new' (Kd.R_new' (Kd.R_new' (Kd.R_new' ho0 (Kd.R_lt (kr HO_241003.out))) (Kd.R_lt (kr HO_253003.out))) (Kd.R_lt (kr HO_261003.out))) (Kd.R_lt (kr HO291.out))) (below_size (bl HB.out)))
         have n7_ := aM (bB (g := gb219) (o := .cells #[.int .i64 a0_0, .slice A0_1 l0_1.length c0_1] 44 (0, 0)) (bk BK219.out) hb)
         have n8_ := aM (bB (g := gb220) (o := .cells #[.int .i64 a1_0, .int .i64 a1_1, .int .i64 a1_2, .slice A1_3 l1_3.length c1_3] 45 (0, 0)) (bk BK220.out) hb)
         have n9_ := aM (bB (g := gb240) (o := .cells #[.int .i64 t233, .int .i64 t234, .int .i64 t235, .slice Ao44 t236.length co44] 28 (0, 0)) (bk BK240.out) hb)
         have n10_ := aM (bB (g := gb245) (o := .cells #[.int .i64 t241, .slice Ao54 t275.length co54] 26 (0, 0)) (bk BK245.out) hb)
         have n11_ := aM (bB (g := gb252) (o := .cells #[.int .i64 t246, .int .i64 t247, .int .i64 t248, .slice Ao64 t277.length co64] 28 (0, 0)) (bk BK252.out) hb)
         have n12_ := aM (bB (g := gb260) (o := .cells #[.int .i64 t253, .int .i64 t254, .int .i64 t255, .slice Ao74 t256.length co74] 28 (0, 0)) (bk BK260.out) hb)
         have n13_ := aM (bB (g := gb299) (o := .cells #[.int .i64 0, .int .i64 0, .int .i64 0, .slice none 0 0] 28 (0, 0)) (bk BK299.out) hb)
         have n14_ := aM (bS (bl HB.out) hb)
         clear HO_241003 HO_246001
         clear HO_253003 HO_261003
         clear HO285 HO291
         clear BK219 BK220
         clear BK240 BK245
         clear BK252 BK260
         clear BK299 HB
         have HO_241003 := n0_
         have HO_246001 := n1_
         have HO_253003 := n2_
         have HO_261003 := n3_
         have HO285 := n4_
         have HO291 := n5_
         have HO297 := n6_
         have BK219 := n7_
         have BK220 := n8_
         have BK240 := n9_
         have BK245 := n10_
         have BK252 := n11_
         have BK260 := n12_
         have BK299 := n13_
         have HB := n14_
         clear n0_ n1_ n2_ n3_ n4_ n5_ n6_ n7_ n8_ n9_ n10_ n11_ n12_ n13_ n14_
         (try clear hb)
         (try clear hb2)
         (try clear hk)
         (try clear hi)
         (try clear ho0)
         refine hK.out _ _ ⟨cI BK219.out 0, cI BK219.out 1, cI BK220.out 0, cI BK220.out 1, cI BK220.out 2, cI BK220.out 3⟩ (fun hHeld => ?_)
         clear hK K
         refine norm_ (a' := ?_) ?_ ?_
         rotate_left
         ·show Act.put _ (some 99) _ = _
          simp only [Act.put, sA, sZ, sS, i64_w, i32_w]
          rfl
         refine pure_ (i := 5) (N := some 94) (v := ?_) (a' := ?_) #[Y,Y,Y,Y,Y,Y,U,U,Y,U,U] rfl rfl (any_of HT_.out (by kernel_rfl)) (fun _ _ _ h => h) (Or.inl ⟨by rfl, ?_⟩) ?_ ?_
         rotate_left
         ·intro w'
          go_simp
          with_reducible rfl
         rotate_left
         ·simp only [Act.put, sA, sZ, sS, i64_w, i32_w]
          rfl
         refine pure_ (i := 6) (N := some 100) (v := ?_) (a' := ?_) #[Y,Y,Y,Y,Y,Y,Y,U,Y,U,U] rfl rfl (any_of HT_.out (by kernel_rfl)) (fun _ _ _ h => h) (Or.inl ⟨by rfl, ?_⟩) ?_ ?_
         rotate_left
         ·intro w'
          go_simp
          with_reducible rfl
         rotate_left
         ·simp only [Act.put, sA, sZ, sS, i64_w, i32_w]
          rfl
         refine pure_ (i := 7) (N := some 101) (v := ?_) (a' := ?_) #[Y,Y,Y,Y,Y,Y,Y,Y,Y,U,U] rfl rfl (any_of HT_.out (by kernel_rfl)) (fun _ _ _ h => h) (Or.inl ⟨by rfl, ?_⟩) ?_ ?_
         rotate_left
         ·intro w'
          go_simp
          with_reducible rfl
         rotate_left
         ·simp only [Act.put, sA, sZ, sS, i64_w, i32_w]
          rfl
         exact norm_ (by simp only [putAll, Act.put, sA, sZ, sS]) (hCont (.slice Ao190 t283.length co190, .slice Ao191 t289.length co191, v296, gb299) _ ⟨hHeld, (kr (Kd.R_mono HO285.out (fun _ hk => hk.2))), (kr (Kd.R_mono HO291.out (fun _ hk => ⟨hk.2, ⟨hk.1.1.1.2, ⟨hk.1.1.2, hk.1.2⟩⟩⟩))), (kr (Kd.R_mono HO297.out (fun _ hk => ⟨hk.2, ⟨hk.1.1.1.2, ⟨hk.1.1.2, hk.1.2⟩⟩⟩))), (kr (Kd.R_mono HO_241003.out (fun _ hk => ⟨hk.1.2, ⟨hk.2, ⟨hk.1.1.1, hk.1.1.2⟩⟩⟩))), (kr (Kd.R_mono HO_246001.out (fun _ hk => hk.2))), (kr (Kd.R_mono HO_253003.out (fun _ hk => ⟨hk.1.2, ⟨hk.2, ⟨hk.1.1.1, hk.1.1.2⟩⟩⟩))), (kr (Kd.R_mono HO_261003.out (fun _ hk => ⟨hk.1.2, ⟨hk.2, ⟨hk.1.1.1, hk.1.1.2⟩⟩⟩))), (bk BK219.out), (bk BK220.out), (bk BK240.out), (bk BK245.out), (bk BK252.out), (bk BK260.out), (bk BK299.out), GW299.out, GE299.out, NB219_299.out, NB299_219.out, NB220_299.out, NB299_220.out, NB240_299.out, NB299_240.out, NB245_299.out, NB299_245.out, NB252_299.out, NB299_252.out, NB260_299.out, NB299_260.out, (bl HB.out)⟩)
       ·skip
        refine box_step ?hg (N := 15) ?hd (cs := #[.int .i64 0, .int .i64 0, .int .i64 0, .slice none 0 0]) (t := 28) ?hr ?_; (case hd => rfl); (case hg => rfl); (case hr => first | (go_simp; done) | (go_simp; rfl))
        intro gb299 hg w188 hbox hb
        have n0_ := aM (kB (kr HO_241003.out) hb)
        have n1_ := aM (kB (kr HO_246001.out) hb)
        have n2_ := aM (kB (kr HO_253003.out) hb)
        have n3_ := aM (kB (kr HO_261003.out) hb)
        have n4_ := aM (kB (kr HO285.out) hb)
        have n5_ := aM (bB (g := gb219) (o := .cells #[.int .i64 a0_0, .slice A0_1 l0_1.length c0_1] 44 (0, 0)) (bk BK219.out) hb)
        have n6_ := aM (bB (g := gb220) (o := .cells #[.int .i64 a1_0, .int .i64 a1_1, .int .i64 a1_2, .slice A1_3 l1_3.length c1_3] 45 (0, 0)) (bk BK220.out) hb)
        have n7_ := aM (bB (g := gb240) (o := .cells #[.int .i64 t233, .int .i64 t234, .int .i64 t235, .slice Ao44 t236.length co44] 28 (0, 0)) (bk BK240.out) hb)
        have n8_ := aM (bB (g := gb245) (o := .cells #[.int .i64 t241, .slice Ao54 t275.length co54] 26 (0, 0)) (bk BK245.out) hb)
        have n9_ := aM (bB (g := gb252) (o := .cells #[.int .i64 t246, .int .i64 t247, .int .i64 t248, .slice Ao64 t277.length co64] 28 (0, 0)) (bk BK252.out) hb)
        have n10_ := aM (bB (g := gb260) (o := .cells #[.int .i64 t253, .int .i64 t254, .int .i64 t255, .slice Ao74 t256.length co74] 28 (0, 0)) (bk BK260.out) hb)
        have n11_ := aM (bS (bl HB.out) hb)
        have n12_ := aM (hbox)
        have n13_ := aM ((by rw [hg]; exact (below_size (bl HB.out)) : w.heap.size ≤ gb299))
        have n14_ := aM ((by rw [hg]; exact (below_size (bl HB.out)) : w.heap.size ≤ gb299))
        have n15_ := aM ((by rw [hg]; exact Nat.ne_of_lt (blk_lt (g := gb219) (o := .cells #[.int .i64 a0_0, .slice A0_1 l0_1.length c0_1] 44 (0, 0)) (bk BK219.out)) : gb219 ≠ gb299))
        have n16_ := aM ((by rw [hg]; exact Nat.ne_of_gt (blk_lt (g := gb219) (o := .cells #[.int .i64 a0_0, .slice A0_1 l0_1.length c0_1] 44 (0, 0)) (bk BK219.out)) : gb299 ≠ gb219))
        have n17_ := aM ((by rw [hg]; exact Nat.ne_of_lt (blk_lt (g := gb220) (o := .cells #[.int .i64 a1_0, .int .i64 a1_1, .int .i64 a1_2, .slice A1_3 l1_3.length c1_3] 45 (0, 0)) (bk BK220.out)) : gb220 ≠ gb299))
        have n18_ := aM ((by rw [hg]; exact Nat.ne_of_gt (blk_lt (g := gb220) (o := .cells #[.int .i64 a1_0, .int .i64 a1_1, .int .i64 a1_2, .slice A1_3 l1_3.length c1_3] 45 (0, 0)) (bk BK220.out)) : gb299 ≠ gb220))
        have n19_ := aM ((by rw [hg]; exact Nat.ne_of_lt (blk_lt (g := gb240) (o := .cells #[.int .i64 t233, .int .i64 t234, .int .i64 t235, .slice Ao44 t236.length co44] 28 (0, 0)) (bk BK240.out)) : gb240 ≠ gb299))
        have n20_ := aM ((by rw [hg]; exact Nat.ne_of_gt (blk_lt (g := gb240) (o := .cells #[.int .i64 t233, .int .i64 t234, .int .i64 t235, .slice Ao44 t236.length co44] 28 (0, 0)) (bk BK240.out)) : gb299 ≠ gb240))
        have n21_ := aM ((by rw [hg]; exact Nat.ne_of_lt (blk_lt (g := gb245) (o := .cells #[.int .i64 t241, .slice Ao54 t275.length co54] 26 (0, 0)) (bk BK245.out)) : gb245 ≠ gb299))
        have n22_ := aM ((by rw [hg]; exact Nat.ne_of_gt (blk_lt (g := gb245) (o := .cells #[.int .i64 t241, .slice Ao54 t275.length co54] 26 (0, 0)) (bk BK245.out)) : gb299 ≠ gb245))
        have n23_ := aM ((by rw [hg]; exact Nat.ne_of_lt (blk_lt (g := gb252) (o := .cells #[.int .i64 t246, .int .i64 t247, .int .i64 t248, .slice Ao64 t277.length co64] 28 (0, 0)) (bk BK252.out)) : gb252 ≠ gb299))
        have n24_ := aM ((by rw [hg]; exact Nat.ne_of_gt (blk_lt (g := gb252) (o := .cells #[.int .i64 t246, .int .i64 t247, .int .i64 t248, .slice Ao64 t277.length co64] 28 (0, 0)) (bk BK252.out)) : gb299 ≠ gb252))
        have n25_ := aM ((by rw [hg]; exact Nat.ne_of_lt (blk_lt (g := gb260) (o := .cells #[.int .i64 t253, .int .i64 t254, .int .i64 t255, .slice Ao74 t256.length co74] 28 (0, 0)) (bk BK260.out)) : gb260 ≠ gb299))
        have n26_ := aM ((by rw [hg]; exact Nat.ne_of_gt (blk_lt (g := gb260) (o := .cells #[.int .i64 t253, .int .i64 t254, .int .i64 t255, .slice Ao74 t256.length co74] 28 (0, 0)) (bk BK260.out)) : gb299 ≠ gb260))
        clear HO_241003 HO_246001
        clear HO_253003 HO_261003
        clear HO285 BK219
        clear BK220 BK240
        clear BK245 BK252
        clear BK260 HB
        have HO_241003 := n0_
        have HO_246001 := n1_
        have HO_253003 := n2_
        have HO_261003 := n3_
        have HO285 := n4_
        have BK219 := n5_
        have BK220 := n6_
        have BK240 := n7_
        have BK245 := n8_
        have BK252 := n9_
        have BK260 := n10_
        have HB := n11_
        have BK299 := n12_
        have GW299 := n13_
        have GE299 := n14_
        have NB219_299 := n15_
        have NB299_219 := n16_
        have NB220_299 := n17_
        have NB299_220 := n18_
        have NB240_299 := n19_
        have NB299_240 := n20_
        have NB245_299 := n21_
        have NB299_245 := n22_
        have NB252_299 := n23_
        have NB299_252 := n24_
        have NB260_299 := n25_
        have NB299_260 := n26_
        clear n0_ n1_ n2_ n3_ n4_ n5_ n6_ n7_ n8_ n9_ n10_ n11_ n12_ n13_ n14_ n15_ n16_ n17_ n18_ n19_ n20_ n21_ n22_ n23_ n24_ n25_ n26_
        clear hb hbox hg
        refine hK.out _ _ ⟨cI BK219.out 0, cI BK219.out 1, cI BK220.out 0, cI BK220.out 1, cI BK220.out 2, cI BK220.out 3⟩ (fun hHeld => ?_)
        clear hK K
        refine norm_ (a' := ?_) ?_ ?_
        rotate_left
        ·show Act.put _ (some 15) _ = _
         simp only [Act.put, sA, sZ, sS, i64_w, i32_w]
         rfl
        refine one_ (i := 3) (N := some 98) #[Y,Y,Y,Y,U,U,U,U,Y,U,U] rfl rfl (one_of HT_.out (by kernel_rfl)) (by decide) (fun K hK => ?_)
        refine goes_ Try.func33 (by kernel_rfl) rfl #[.agg #[.int .i64 a1_0, .int .i64 a1_1, .int .i64 a1_2, .slice A1_3 l1_3.length c1_3]] (by rfl) rfl rfl xR ?_
        with_reducible refine (laws_toFrame.calls kj109 a1_0 a1_1 a1_2 _ _ l1_3 t286 t287 t288 t289 _ ?side1 ?side2 A174.out).mono ?_
        (case side1 => repeat (first | exact (cB HR1_3.out HB.out) | (with_reducible refine Kd.C_alloc ?_ _) | (with_reducible refine Kd.C_drewN ?_ _) | (with_reducible refine Kd.C_drew ?_)))
        (case side2 => exact HC1_3.out)
        rintro e w189 ⟨v290, rfl, ho0, hb⟩
        refine ⟨_, rfl, ?_⟩
        have n0_ := aM (Kd.R_elder' (kr HO_241003.out) (Kd.R_base ho0) hb)
        have n1_ := aM (kB (kr HO_246001.out) hb)
        have n2_ := aM (Kd.R_elder' (kr HO_253003.out) (Kd.R_base ho0) hb)
        have n3_ := aM (Kd.R_elder' (kr HO_261003.out) (Kd.R_base ho0) hb)
        have n4_ := aM (kB (kr HO285.out) hb)
        have n5_ := aM (Kd.R_lower (Kd.R_new' (Kd.R_new' (Kd.R_new' ho0 (Kd.R_lt (kr HO_241003.out))) (Kd.R_lt (kr HO_253003.out))) (Kd.R_lt (kr HO_261003.out))) (below_size (bl HB.out)))
        have n6_ := aM (bB (g := gb219) (o := .cells #[.int .i64 a0_0, .slice A0_1 l0_1.length c0_1] 44 (0, 0)) (bk BK219.out) hb)
        have n7_ := aM (bB (g := gb220) (o := .cells #[.int .i64 a1_0, .int .i64 a1_1, .int .i64 a1_2, .slice A1_3 l1_3.length c1_3] 45 (0, 0)) (bk BK220.out) hb)
        have n8_ := aM (bB (g := gb240) (o := .cells #[.int .i64 t233, .int .i64 t234, .int .i64 t235, .slice Ao44 t236.length co44] 28 (0, 0)) (bk BK240.out) hb)
        have n9_ := aM (bB (g := gb245) (o := .cells #[.int .i64 t241, .slice Ao54 t275.length co54] 26 (0, 0)) (bk BK245.out) hb)
        have n10_ := aM (bB (g := gb252) (o := .cells #[.int .i64 t246, .int .i64 t247, .int .i64 t248, .slice Ao64 t277.length co64] 28 (0, 0)) (bk BK252.out) hb)
        have n11_ := aM (bB (g := gb260) (o := .cells #[.int .i64 t253, .int .i64 t254, .int .i64 t255, .slice Ao74 t256.length co74] 28 (0, 0)) (bk BK260.out) hb)
        have n12_ := aM (bB (g := gb299) (o := .cells #[.int .i64 0, .int .i64 0, .int .i64 0, .slice none 0 0] 28 (0, 0)) (bk BK299.out) hb)
        have n13_ := aM (bS (bl HB.out) hb)
        clear HO_241003 HO_246001
        clear HO_253003 HO_261003
        clear HO285 BK219
        clear BK220 BK240
        clear BK245 BK252
        clear BK260 BK299 HB
        have HO_241003 := n0_
        have HO_246001 := n1_
        have HO_253003 := n2_
        have HO_261003 := n3_
        have HO285 := n4_
        have HO291 := n5_
        have BK219 := n6_
        have BK220 := n7_
        have BK240 := n8_
        have BK245 := n9_
        have BK252 := n10_
        have BK260 := n11_
        have BK299 := n12_
        have HB := n13_
        clear n0_ n1_ n2_ n3_ n4_ n5_ n6_ n7_ n8_ n9_ n10_ n11_ n12_ n13_
        (try clear hb)
        (try clear hb2)
        (try clear hk)
        (try clear hi)
        (try clear ho0)
        obtain ⟨Ao190, co190, eo190⟩ := Kd.R_slice HO285.out
        (first | subst eo190 | (injection eo190 with f1_ f2_ f3_; have f4_ := f1_.symm; have f5_ := f3_.symm; clear f1_ f2_ f3_; subst f4_; subst f5_))
        obtain ⟨Ao191, co191, eo191⟩ := Kd.R_slice HO291.out
        (first | subst eo191 | (injection eo191 with f1_ f2_ f3_; have f4_ := f1_.symm; have f5_ := f3_.symm; clear f1_ f2_ f3_; subst f4_; subst f5_))
        refine hK.out _ _ ⟨cI BK219.out 0, cI BK219.out 1, cI BK220.out 0, cI BK220.out 1, cI BK220.out 2, cI BK220.out 3⟩ (fun hHeld => ?_)
        clear hK K
        refine norm_ (a' := ?_) ?_ ?_
        rotate_left
        ·show Act.put _ (some 98) _ = _
         simp only [Act.put, sA, sZ, sS, i64_w, i32_w]
         rfl
        refine one_ (i := 4) (N := some 99) #[Y,Y,Y,Y,Y,U,U,U,Y,U,U] rfl rfl (one_of HT_.out (by kernel_rfl)) (by decide) (fun K hK => ?_)
        refine goes_ Try.func14 (by kernel_rfl) rfl #[.agg #[.int .i64 t282, .slice Ao190 t283.length co190], .agg #[.int .i64 t286, .int .i64 t287, .int .i64 t288, .slice Ao191 t289.length co191]] (by rfl) rfl rfl xR ?_
        with_reducible refine (impl_Outside.calls kj109 t282 _ _ t283 t286 t287 t288 _ _ t289 t292 t293 t294 t295 t298 _ ?side1 ?side2 ?side3 ?side4 A175.out).mono ?_
        (case side1 => repeat (first | exact (Kd.R_reads' HO285.out).2.2 | (with_reducible refine Kd.C_alloc ?_ _) | (with_reducible refine Kd.C_drewN ?_ _) | (with_reducible refine Kd.C_drew ?_)))
        (case side2 => exact (Kd.R_reads' HO285.out).2.1)
        (case side3 => repeat (first | exact (Kd.R_reads' HO291.out).2.2 | (with_reducible refine Kd.C_alloc ?_ _) | (with_reducible refine Kd.C_drewN ?_ _) | (with_reducible refine Kd.C_drew ?_)))
        (case side4 => exact (Kd.R_reads' HO291.out).2.1)
        rintro e w192 ⟨v296, rfl, ho0, hb⟩
        refine ⟨_, rfl, ?_⟩
        have n0_ := aM (Kd.R_elder' (kr HO_241003.out) (Kd.R_base ho0) hb)
        have n1_ := aM (kB (kr HO_246001.out) hb)
        have n2_ := aM (Kd.R_elder' (kr HO_253003.out) (Kd.R_base ho0) hb)
        have n3_ := aM (Kd.R_elder' (kr HO_261003.out) (Kd.R_base ho0) hb)
        have n4_ := aM (kB (kr HO285.out) hb)
        have n5_ := aM (Kd.R_elder' (kr HO291.out) (Kd.R_base ho0) hb)
        have n6_ := aM (Kd.R_lower (Kd.R_new' (Kd.R_new' (Kd.R_new' (Kd.R_new' ho0 (Kd.R_lt (kr HO_241003.out))) (Kd.R_lt (kr HO_253003.out))) (Kd.R_lt (kr HO_261003.out))) (Kd.R_lt (kr HO291.out))) (below_size (bl HB.out)))
        have n7_ := aM (bB (g := gb219) (o := .cells #[.int .i64 a0_0, .slice A0_1 l0_1.length c0_1] 44 (0, 0)) (bk BK219.out) hb)
        have n8_ := aM (bB (g := gb220) (o := .cells #[.int .i64 a1_0, .int .i64 a1_1, .int .i64 a1_2, .slice A1_3 l1_3.length c1_3] 45 (0, 0)) (bk BK220.out) hb)
        have n9_ := aM (bB (g := gb240) (o := .cells #[.int .i64 t233, .int .i64 t234, .int .i64 t235, .slice Ao44 t236.length co44] 28 (0, 0)) (bk BK240.out) hb)
        have n10_ := aM (bB (g := gb245) (o := .cells #[.int .i64 t241, .slice Ao54 t275.length co54] 26 (0, 0)) (bk BK245.out) hb)
        have n11_ := aM (bB (g := gb252) (o := .cells #[.int .i64 t246, .int .i64 t247, .int .i64 t248, .slice Ao64 t277.length co64] 28 (0, 0)) (bk BK252.out) hb)
        have n12_ := aM (bB (g := gb260) (o := .cells #[.int .i64 t253, .int .i64 t254, .int .i64 t255, .slice Ao74 t256.length co74] 28 (0, 0)) (bk BK260.out) hb)
        have n13_ := aM (bB (g := gb299) (o := .cells #[.int .i64 0, .int .i64 0, .int .i64 0, .slice none 0 0] 28 (0, 0)) (bk BK299.out) hb)
        have n14_ := aM (bS (bl HB.out) hb)
        clear HO_241003 HO_246001
        clear HO_253003 HO_261003
        clear HO285 HO291
        clear BK219 BK220
        clear BK240 BK245
        clear BK252 BK260
        clear BK299 HB
        have HO_241003 := n0_
        have HO_246001 := n1_
        have HO_253003 := n2_
        have HO_261003 := n3_
        have HO285 := n4_
        have HO291 := n5_
        have HO297 := n6_
        have BK219 := n7_
        have BK220 := n8_
        have BK240 := n9_
        have BK245 := n10_
        have BK252 := n11_
        have BK260 := n12_
        have BK299 := n13_
        have HB := n14_
        clear n0_ n1_ n2_ n3_ n4_ n5_ n6_ n7_ n8_ n9_ n10_ n11_ n12_ n13_ n14_
        (try clear hb)
        (try clear hb2)
        (try clear hk)
        (try clear hi)
        (try clear ho0)
        refine hK.out _ _ ⟨cI BK219.out 0, cI BK219.out 1, cI BK220.out 0, cI BK220.out 1, cI BK220.out 2, cI BK220.out 3⟩ (fun hHeld => ?_)
        clear hK K
        refine norm_ (a' := ?_) ?_ ?_
        rotate_left
        ·show Act.put _ (some 99) _ = _
         simp only [Act.put, sA, sZ, sS, i64_w, i32_w]
         rfl
        refine pure_ (i := 5) (N := some 94) (v := ?_) (a' := ?_) #[Y,Y,Y,Y,Y,Y,U,U,Y,U,U] rfl rfl (any_of HT_.out (by kernel_rfl)) (fun _ _ _ h => h) (Or.inl ⟨by rfl, ?_⟩) ?_ ?_
        rotate_left
        ·intro w'
         go_simp
         with_reducible rfl
        rotate_left
        ·simp only [Act.put, sA, sZ, sS, i64_w, i32_w]
         rfl
        refine pure_ (i := 6) (N := some 100) (v := ?_) (a' := ?_) #[Y,Y,Y,Y,Y,Y,Y,U,Y,U,U] rfl rfl (any_of HT_.out (by kernel_rfl)) (fun _ _ _ h => h) (Or.inl ⟨by rfl, ?_⟩) ?_ ?_
        rotate_left
        ·intro w'
         go_simp
         with_reducible rfl
        rotate_left
        ·simp only [Act.put, sA, sZ, sS, i64_w, i32_w]
         rfl
        refine pure_ (i := 7) (N := some 101) (v := ?_) (a' := ?_) #[Y,Y,Y,Y,Y,Y,Y,Y,Y,U,U] rfl rfl (any_of HT_.out (by kernel_rfl)) (fun _ _ _ h => h) (Or.inl ⟨by rfl, ?_⟩) ?_ ?_
        rotate_left
        ·intro w'
         go_simp
         with_reducible rfl
        rotate_left
        ·simp only [Act.put, sA, sZ, sS, i64_w, i32_w]
         rfl
        exact norm_ (by simp only [putAll, Act.put, sA, sZ, sS]) (hCont (.slice Ao190 t283.length co190, .slice Ao191 t289.length co191, v296, gb299) _ ⟨hHeld, (kr (Kd.R_mono HO285.out (fun _ hk => hk.2))), (kr (Kd.R_mono HO291.out (fun _ hk => ⟨hk.2, ⟨hk.1.1.1.2, ⟨hk.1.1.2, hk.1.2⟩⟩⟩))), (kr (Kd.R_mono HO297.out (fun _ hk => ⟨hk.2, ⟨hk.1.1.1.2, ⟨hk.1.1.2, hk.1.2⟩⟩⟩))), (kr (Kd.R_mono HO_241003.out (fun _ hk => ⟨hk.1.2, ⟨hk.2, ⟨hk.1.1.1, hk.1.1.2⟩⟩⟩))), (kr (Kd.R_mono HO_246001.out (fun _ hk => hk.2))), (kr (Kd.R_mono HO_253003.out (fun _ hk => ⟨hk.1.2, ⟨hk.2, ⟨hk.1.1.1, hk.1.1.2⟩⟩⟩))), (kr (Kd.R_mono HO_261003.out (fun _ hk => ⟨hk.1.2, ⟨hk.2, ⟨hk.1.1.1, hk.1.1.2⟩⟩⟩))), (bk BK219.out), (bk BK220.out), (bk BK240.out), (bk BK245.out), (bk BK252.out), (bk BK260.out), (bk BK299.out), GW299.out, GE299.out, NB219_299.out, NB299_219.out, NB220_299.out, NB299_220.out, NB240_299.out, NB299_240.out, NB245_299.out, NB299_245.out, NB252_299.out, NB299_252.out, NB260_299.out, NB299_260.out, (bl HB.out)⟩)
      ·skip
       refine box_step ?hg (N := 15) ?hd (cs := #[.int .i64 0, .int .i64 0, .int .i64 0, .slice none 0 0]) (t := 28) ?hr ?_; (case hd => rfl); (case hg => rfl); (case hr => first | (go_simp; done) | (go_simp; rfl))
       intro gb299 hg w187 hbox hb
       have n0_ := aM (kB (kr HO_241003.out) hb)
       have n1_ := aM (kB (kr HO_246001.out) hb)
       have n2_ := aM (kB (kr HO_253003.out) hb)
       have n3_ := aM (kB (kr HO_261003.out) hb)
       have n4_ := aM (bB (g := gb219) (o := .cells #[.int .i64 a0_0, .slice A0_1 l0_1.length c0_1] 44 (0, 0)) (bk BK219.out) hb)
       have n5_ := aM (bB (g := gb220) (o := .cells #[.int .i64 a1_0, .int .i64 a1_1, .int .i64 a1_2, .slice A1_3 l1_3.length c1_3] 45 (0, 0)) (bk BK220.out) hb)
       have n6_ := aM (bB (g := gb240) (o := .cells #[.int .i64 t233, .int .i64 t234, .int .i64 t235, .slice Ao44 t236.length co44] 28 (0, 0)) (bk BK240.out) hb)
       have n7_ := aM (bB (g := gb245) (o := .cells #[.int .i64 t241, .slice Ao54 t275.length co54] 26 (0, 0)) (bk BK245.out) hb)
       have n8_ := aM (bB (g := gb252) (o := .cells #[.int .i64 t246, .int .i64 t247, .int .i64 t248, .slice Ao64 t277.length co64] 28 (0, 0)) (bk BK252.out) hb)
       have n9_ := aM (bB (g := gb260) (o := .cells #[.int .i64 t253, .int .i64 t254, .int .i64 t255, .slice Ao74 t256.length co74] 28 (0, 0)) (bk BK260.out) hb)
       have n10_ := aM (bS (bl HB.out) hb)
       have n11_ := aM (hbox)
       have n12_ := aM ((by rw [hg]; exact (below_size (bl HB.out)) : w.heap.size ≤ gb299))
       have n13_ := aM ((by rw [hg]; exact (below_size (bl HB.out)) : w.heap.size ≤ gb299))
       have n14_ := aM ((by rw [hg]; exact Nat.ne_of_lt (blk_lt (g := gb219) (o := .cells #[.int .i64 a0_0, .slice A0_1 l0_1.length c0_1] 44 (0, 0)) (bk BK219.out)) : gb219 ≠ gb299))
       have n15_ := aM ((by rw [hg]; exact Nat.ne_of_gt (blk_lt (g := gb219) (o := .cells #[.int .i64 a0_0, .slice A0_1 l0_1.length c0_1] 44 (0, 0)) (bk BK219.out)) : gb299 ≠ gb219))
       have n16_ := aM ((by rw [hg]; exact Nat.ne_of_lt (blk_lt (g := gb220) (o := .cells #[.int .i64 a1_0, .int .i64 a1_1, .int .i64 a1_2, .slice A1_3 l1_3.length c1_3] 45 (0, 0)) (bk BK220.out)) : gb220 ≠ gb299))
       have n17_ := aM ((by rw [hg]; exact Nat.ne_of_gt (blk_lt (g := gb220) (o := .cells #[.int .i64 a1_0, .int .i64 a1_1, .int .i64 a1_2, .slice A1_3 l1_3.length c1_3] 45 (0, 0)) (bk BK220.out)) : gb299 ≠ gb220))
       have n18_ := aM ((by rw [hg]; exact Nat.ne_of_lt (blk_lt (g := gb240) (o := .cells #[.int .i64 t233, .int .i64 t234, .int .i64 t235, .slice Ao44 t236.length co44] 28 (0, 0)) (bk BK240.out)) : gb240 ≠ gb299))
       have n19_ := aM ((by rw [hg]; exact Nat.ne_of_gt (blk_lt (g := gb240) (o := .cells #[.int .i64 t233, .int .i64 t234, .int .i64 t235, .slice Ao44 t236.length co44] 28 (0, 0)) (bk BK240.out)) : gb299 ≠ gb240))
       have n20_ := aM ((by rw [hg]; exact Nat.ne_of_lt (blk_lt (g := gb245) (o := .cells #[.int .i64 t241, .slice Ao54 t275.length co54] 26 (0, 0)) (bk BK245.out)) : gb245 ≠ gb299))
       have n21_ := aM ((by rw [hg]; exact Nat.ne_of_gt (blk_lt (g := gb245) (o := .cells #[.int .i64 t241, .slice Ao54 t275.length co54] 26 (0, 0)) (bk BK245.out)) : gb299 ≠ gb245))
       have n22_ := aM ((by rw [hg]; exact Nat.ne_of_lt (blk_lt (g := gb252) (o := .cells #[.int .i64 t246, .int .i64 t247, .int .i64 t248, .slice Ao64 t277.length co64] 28 (0, 0)) (bk BK252.out)) : gb252 ≠ gb299))
       have n23_ := aM ((by rw [hg]; exact Nat.ne_of_gt (blk_lt (g := gb252) (o := .cells #[.int .i64 t246, .int .i64 t247, .int .i64 t248, .slice Ao64 t277.length co64] 28 (0, 0)) (bk BK252.out)) : gb299 ≠ gb252))
       have n24_ := aM ((by rw [hg]; exact Nat.ne_of_lt (blk_lt (g := gb260) (o := .cells #[.int .i64 t253, .int .i64 t254, .int .i64 t255, .slice Ao74 t256.length co74] 28 (0, 0)) (bk BK260.out)) : gb260 ≠ gb299))
       have n25_ := aM ((by rw [hg]; exact Nat.ne_of_gt (blk_lt (g := gb260) (o := .cells #[.int .i64 t253, .int .i64 t254, .int .i64 t255, .slice Ao74 t256.length co74] 28 (0, 0)) (bk BK260.out)) : gb299 ≠ gb260))
       clear HO_241003 HO_246001
       clear HO_253003 HO_261003
       clear BK219 BK220
       clear BK240 BK245
       clear BK252 BK260 HB
       have HO_241003 := n0_
       have HO_246001 := n1_
       have HO_253003 := n2_
       have HO_261003 := n3_
       have BK219 := n4_
       have BK220 := n5_
       have BK240 := n6_
       have BK245 := n7_
       have BK252 := n8_
       have BK260 := n9_
       have HB := n10_
       have BK299 := n11_
       have GW299 := n12_
       have GE299 := n13_
       have NB219_299 := n14_
       have NB299_219 := n15_
       have NB220_299 := n16_
       have NB299_220 := n17_
       have NB240_299 := n18_
       have NB299_240 := n19_
       have NB245_299 := n20_
       have NB299_245 := n21_
       have NB252_299 := n22_
       have NB299_252 := n23_
       have NB260_299 := n24_
       have NB299_260 := n25_
       clear n0_ n1_ n2_ n3_ n4_ n5_ n6_ n7_ n8_ n9_ n10_ n11_ n12_ n13_ n14_ n15_ n16_ n17_ n18_ n19_ n20_ n21_ n22_ n23_ n24_ n25_
       clear hb hbox hg
       refine hK.out _ _ ⟨cI BK219.out 0, cI BK219.out 1, cI BK220.out 0, cI BK220.out 1, cI BK220.out 2, cI BK220.out 3⟩ (fun hHeld => ?_)
       clear hK K
       refine norm_ (a' := ?_) ?_ ?_
       rotate_left
       ·show Act.put _ (some 15) _ = _
        simp only [Act.put, sA, sZ, sS, i64_w, i32_w]
        rfl
       refine one_ (i := 1) (N := some 96) #[Y,Y,Y,U,U,U,U,U,Y,U,U] rfl rfl (one_of HT_.out (by kernel_rfl)) (by decide) (fun K hK => ?_)
       refine goes_ Try.func32 (by kernel_rfl) rfl #[.agg #[.int .i64 a0_0, .slice A0_1 l0_1.length c0_1]] (by rfl) rfl rfl xR ?_
       with_reducible refine (laws_toMember.calls kj109 a0_0 _ _ l0_1 t282 t283 _ ?side1 ?side2 A173.out).mono ?_
       (case side1 => repeat (first | exact (cB HR0_1.out HB.out) | (with_reducible refine Kd.C_alloc ?_ _) | (with_reducible refine Kd.C_drewN ?_ _) | (with_reducible refine Kd.C_drew ?_)))
       (case side2 => exact HC0_1.out)
       rintro e w188 ⟨v284, rfl, ho0, hb⟩
       refine ⟨_, rfl, ?_⟩
       have n0_ := aM (kB (kr HO_241003.out) hb)
       have n1_ := aM (Kd.R_elder' (kr HO_246001.out) (Kd.R_base ho0) hb)
       have n2_ := aM (kB (kr HO_253003.out) hb)
       have n3_ := aM (kB (kr HO_261003.out) hb)
       have n4_ := aM (Kd.R_lower (Kd.R_new' ho0 (Kd.R_lt (kr HO_246001.out))) (below_size (bl HB.out)))
       have n5_ := aM (bB (g := gb219) (o := .cells #[.int .i64 a0_0, .slice A0_1 l0_1.length c0_1] 44 (0, 0)) (bk BK219.out) hb)
       have n6_ := aM (bB (g := gb220) (o := .cells #[.int .i64 a1_0, .int .i64 a1_1, .int .i64 a1_2, .slice A1_3 l1_3.length c1_3] 45 (0, 0)) (bk BK220.out) hb)
       have n7_ := aM (bB (g := gb240) (o := .cells #[.int .i64 t233, .int .i64 t234, .int .i64 t235, .slice Ao44 t236.length co44] 28 (0, 0)) (bk BK240.out) hb)
       have n8_ := aM (bB (g := gb245) (o := .cells #[.int .i64 t241, .slice Ao54 t275.length co54] 26 (0, 0)) (bk BK245.out) hb)
       have n9_ := aM (bB (g := gb252) (o := .cells #[.int .i64 t246, .int .i64 t247, .int .i64 t248, .slice Ao64 t277.length co64] 28 (0, 0)) (bk BK252.out) hb)
       have n10_ := aM (bB (g := gb260) (o := .cells #[.int .i64 t253, .int .i64 t254, .int .i64 t255, .slice Ao74 t256.length co74] 28 (0, 0)) (bk BK260.out) hb)
       have n11_ := aM (bB (g := gb299) (o := .cells #[.int .i64 0, .int .i64 0, .int .i64 0, .slice none 0 0] 28 (0, 0)) (bk BK299.out) hb)
       have n12_ := aM (bS (bl HB.out) hb)
       clear HO_241003 HO_246001
       clear HO_253003 HO_261003
       clear BK219 BK220
       clear BK240 BK245
       clear BK252 BK260
       clear BK299 HB
       have HO_241003 := n0_
       have HO_246001 := n1_
       have HO_253003 := n2_
       have HO_261003 := n3_
       have HO285 := n4_
       have BK219 := n5_
       have BK220 := n6_
       have BK240 := n7_
       have BK245 := n8_
       have BK252 := n9_
       have BK260 := n10_
       have BK299 := n11_
       have HB := n12_
       clear n0_ n1_ n2_ n3_ n4_ n5_ n6_ n7_ n8_ n9_ n10_ n11_ n12_
       (try clear hb)
       (try clear hb2)
       (try clear hk)
       (try clear hi)
       (try clear ho0)
       refine hK.out _ _ ⟨cI BK219.out 0, cI BK219.out 1, cI BK220.out 0, cI BK220.out 1, cI BK220.out 2, cI BK220.out 3⟩ (fun hHeld => ?_)
       clear hK K
       refine norm_ (a' := ?_) ?_ ?_
       rotate_left
       ·show Act.put _ (some 96) _ = _
        simp only [Act.put, sA, sZ, sS, i64_w, i32_w]
        rfl
       refine one_ (i := 3) (N := some 98) #[Y,Y,Y,Y,U,U,U,U,Y,U,U] rfl rfl (one_of HT_.out (by kernel_rfl)) (by decide) (fun K hK => ?_)
       refine goes_ Try.func33 (by kernel_rfl) rfl #[.agg #[.int .i64 a1_0, .int .i64 a1_1, .int .i64 a1_2, .slice A1_3 l1_3.length c1_3]] (by rfl) rfl rfl xR ?_
       with_reducible refine (laws_toFrame.calls kj109 a1_0 a1_1 a1_2 _ _ l1_3 t286 t287 t288 t289 _ ?side1 ?side2 A174.out).mono ?_
       (case side1 => repeat (first | exact (cB HR1_3.out HB.out) | (with_reducible refine Kd.C_alloc ?_ _) | (with_reducible refine Kd.C_drewN ?_ _) | (with_reducible refine Kd.C_drew ?_)))
       (case side2 => exact HC1_3.out)
       rintro e w189 ⟨v290, rfl, ho0, hb⟩
       refine ⟨_, rfl, ?_⟩
       have n0_ := aM (Kd.R_elder' (kr HO_241003.out) (Kd.R_base ho0) hb)
       have n1_ := aM (kB (kr HO_246001.out) hb)
       have n2_ := aM (Kd.R_elder' (kr HO_253003.out) (Kd.R_base ho0) hb)
       have n3_ := aM (Kd.R_elder' (kr HO_261003.out) (Kd.R_base ho0) hb)
       have n4_ := aM (kB (kr HO285.out) hb)
       have n5_ := aM (Kd.R_lower (Kd.R_new' (Kd.R_new' (Kd.R_new' ho0 (Kd.R_lt (kr HO_241003.out))) (Kd.R_lt (kr HO_253003.out))) (Kd.R_lt (kr HO_261003.out))) (below_size (bl HB.out)))
       have n6_ := aM (bB (g := gb219) (o := .cells #[.int .i64 a0_0, .slice A0_1 l0_1.length c0_1] 44 (0, 0)) (bk BK219.out) hb)
       have n7_ := aM (bB (g := gb220) (o := .cells #[.int .i64 a1_0, .int .i64 a1_1, .int .i64 a1_2, .slice A1_3 l1_3.length c1_3] 45 (0, 0)) (bk BK220.out) hb)
       have n8_ := aM (bB (g := gb240) (o := .cells #[.int .i64 t233, .int .i64 t234, .int .i64 t235, .slice Ao44 t236.length co44] 28 (0, 0)) (bk BK240.out) hb)
       have n9_ := aM (bB (g := gb245) (o := .cells #[.int .i64 t241, .slice Ao54 t275.length co54] 26 (0, 0)) (bk BK245.out) hb)
       have n10_ := aM (bB (g := gb252) (o := .cells #[.int .i64 t246, .int .i64 t247, .int .i64 t248, .slice Ao64 t277.length co64] 28 (0, 0)) (bk BK252.out) hb)
       have n11_ := aM (bB (g := gb260) (o := .cells #[.int .i64 t253, .int .i64 t254, .int .i64 t255, .slice Ao74 t256.length co74] 28 (0, 0)) (bk BK260.out) hb)
       have n12_ := aM (bB (g := gb299) (o := .cells #[.int .i64 0, .int .i64 0, .int .i64 0, .slice none 0 0] 28 (0, 0)) (bk BK299.out) hb)
       have n13_ := aM (bS (bl HB.out) hb)
       clear HO_241003 HO_246001
       clear HO_253003 HO_261003
       clear HO285 BK219
       clear BK220 BK240
       clear BK245 BK252
       clear BK260 BK299 HB
       have HO_241003 := n0_
       have HO_246001 := n1_
       have HO_253003 := n2_
       have HO_261003 := n3_
       have HO285 := n4_
       have HO291 := n5_
       have BK219 := n6_
       have BK220 := n7_
       have BK240 := n8_
       have BK245 := n9_
       have BK252 := n10_
       have BK260 := n11_
       have BK299 := n12_
       have HB := n13_
       clear n0_ n1_ n2_ n3_ n4_ n5_ n6_ n7_ n8_ n9_ n10_ n11_ n12_ n13_
       (try clear hb)
       (try clear hb2)
       (try clear hk)
       (try clear hi)
       (try clear ho0)
       obtain ⟨Ao190, co190, eo190⟩ := Kd.R_slice HO285.out
       (first | subst eo190 | (injection eo190 with f1_ f2_ f3_; have f4_ := f1_.symm; have f5_ := f3_.symm; clear f1_ f2_ f3_; subst f4_; subst f5_))
       obtain ⟨Ao191, co191, eo191⟩ := Kd.R_slice HO291.out
       (first | subst eo191 | (injection eo191 with f1_ f2_ f3_; have f4_ := f1_.symm; have f5_ := f3_.symm; clear f1_ f2_ f3_; subst f4_; subst f5_))
       refine hK.out _ _ ⟨cI BK219.out 0, cI BK219.out 1, cI BK220.out 0, cI BK220.out 1, cI BK220.out 2, cI BK220.out 3⟩ (fun hHeld => ?_)
       clear hK K
       refine norm_ (a' := ?_) ?_ ?_
       rotate_left
       ·show Act.put _ (some 98) _ = _
        simp only [Act.put, sA, sZ, sS, i64_w, i32_w]
        rfl
       refine one_ (i := 4) (N := some 99) #[Y,Y,Y,Y,Y,U,U,U,Y,U,U] rfl rfl (one_of HT_.out (by kernel_rfl)) (by decide) (fun K hK => ?_)
       refine goes_ Try.func14 (by kernel_rfl) rfl #[.agg #[.int .i64 t282, .slice Ao190 t283.length co190], .agg #[.int .i64 t286, .int .i64 t287, .int .i64 t288, .slice Ao191 t289.length co191]] (by rfl) rfl rfl xR ?_
       with_reducible refine (impl_Outside.calls kj109 t282 _ _ t283 t286 t287 t288 _ _ t289 t292 t293 t294 t295 t298 _ ?side1 ?side2 ?side3 ?side4 A175.out).mono ?_
       (case side1 => repeat (first | exact (Kd.R_reads' HO285.out).2.2 | (with_reducible refine Kd.C_alloc ?_ _) | (with_reducible refine Kd.C_drewN ?_ _) | (with_reducible refine Kd.C_drew ?_)))
       (case side2 => exact (Kd.R_reads' HO285.out).2.1)
       (case side3 => repeat (first | exact (Kd.R_reads' HO291.out).2.2 | (with_reducible refine Kd.C_alloc ?_ _) | (with_reducible refine Kd.C_drewN ?_ _) | (with_reducible refine Kd.C_drew ?_)))
       (case side4 => exact (Kd.R_reads' HO291.out).2.1)
       rintro e w192 ⟨v296, rfl, ho0, hb⟩
       refine ⟨_, rfl, ?_⟩
       have n0_ := aM (Kd.R_elder' (kr HO_241003.out) (Kd.R_base ho0) hb)
       have n1_ := aM (kB (kr HO_246001.out) hb)
       have n2_ := aM (Kd.R_elder' (kr HO_253003.out) (Kd.R_base ho0) hb)
       have n3_ := aM (Kd.R_elder' (kr HO_261003.out) (Kd.R_base ho0) hb)
       have n4_ := aM (kB (kr HO285.out) hb)
       have n5_ := aM (Kd.R_elder' (kr HO291.out) (Kd.R_base ho0) hb)
       have n6_ := aM (Kd.R_lower (Kd.R_new' (Kd.R_new' (Kd.R_new' (Kd.R_new' ho0 (Kd.R_lt (kr HO_241003.out))) (Kd.R_lt (kr HO_253003.out))) (Kd.R_lt (kr HO_261003.out))) (Kd.R_lt (kr HO291.out))) (below_size (bl HB.out)))
       have n7_ := aM (bB (g := gb219) (o := .cells #[.int .i64 a0_0, .slice A0_1 l0_1.length c0_1] 44 (0, 0)) (bk BK219.out) hb)
       have n8_ := aM (bB (g := gb220) (o := .cells #[.int .i64 a1_0, .int .i64 a1_1, .int .i64 a1_2, .slice A1_3 l1_3.length c1_3] 45 (0, 0)) (bk BK220.out) hb)
       have n9_ := aM (bB (g := gb240) (o := .cells #[.int .i64 t233, .int .i64 t234, .int .i64 t235, .slice Ao44 t236.length co44] 28 (0, 0)) (bk BK240.out) hb)
       have n10_ := aM (bB (g := gb245) (o := .cells #[.int .i64 t241, .slice Ao54 t275.length co54] 26 (0, 0)) (bk BK245.out) hb)
       have n11_ := aM (bB (g := gb252) (o := .cells #[.int .i64 t246, .int .i64 t247, .int .i64 t248, .slice Ao64 t277.length co64] 28 (0, 0)) (bk BK252.out) hb)
       have n12_ := aM (bB (g := gb260) (o := .cells #[.int .i64 t253, .int .i64 t254, .int .i64 t255, .slice Ao74 t256.length co74] 28 (0, 0)) (bk BK260.out) hb)
       have n13_ := aM (bB (g := gb299) (o := .cells #[.int .i64 0, .int .i64 0, .int .i64 0, .slice none 0 0] 28 (0, 0)) (bk BK299.out) hb)
       have n14_ := aM (bS (bl HB.out) hb)
       clear HO_241003 HO_246001
       clear HO_253003 HO_261003
       clear HO285 HO291
       clear BK219 BK220
       clear BK240 BK245
       clear BK252 BK260
       clear BK299 HB
       have HO_241003 := n0_
       have HO_246001 := n1_
       have HO_253003 := n2_
       have HO_261003 := n3_
       have HO285 := n4_
       have HO291 := n5_
       have HO297 := n6_
       have BK219 := n7_
       have BK220 := n8_
       have BK240 := n9_
       have BK245 := n10_
       have BK252 := n11_
       have BK260 := n12_
       have BK299 := n13_
       have HB := n14_
       clear n0_ n1_ n2_ n3_ n4_ n5_ n6_ n7_ n8_ n9_ n10_ n11_ n12_ n13_ n14_
       (try clear hb)
       (try clear hb2)
       (try clear hk)
       (try clear hi)
       (try clear ho0)
       refine hK.out _ _ ⟨cI BK219.out 0, cI BK219.out 1, cI BK220.out 0, cI BK220.out 1, cI BK220.out 2, cI BK220.out 3⟩ (fun hHeld => ?_)
       clear hK K
       refine norm_ (a' := ?_) ?_ ?_
       rotate_left
       ·show Act.put _ (some 99) _ = _
        simp only [Act.put, sA, sZ, sS, i64_w, i32_w]
        rfl
       refine pure_ (i := 5) (N := some 94) (v := ?_) (a' := ?_) #[Y,Y,Y,Y,Y,Y,U,U,Y,U,U] rfl rfl (any_of HT_.out (by kernel_rfl)) (fun _ _ _ h => h) (Or.inl ⟨by rfl, ?_⟩) ?_ ?_
       rotate_left
       ·intro w'
        go_simp
        with_reducible rfl
       rotate_left
       ·simp only [Act.put, sA, sZ, sS, i64_w, i32_w]
        rfl
       refine pure_ (i := 6) (N := some 100) (v := ?_) (a' := ?_) #[Y,Y,Y,Y,Y,Y,Y,U,Y,U,U] rfl rfl (any_of HT_.out (by kernel_rfl)) (fun _ _ _ h => h) (Or.inl ⟨by rfl, ?_⟩) ?_ ?_
       rotate_left
       ·intro w'
        go_simp
        with_reducible rfl
       rotate_left
       ·simp only [Act.put, sA, sZ, sS, i64_w, i32_w]
        rfl
       refine pure_ (i := 7) (N := some 101) (v := ?_) (a' := ?_) #[Y,Y,Y,Y,Y,Y,Y,Y,Y,U,U] rfl rfl (any_of HT_.out (by kernel_rfl)) (fun _ _ _ h => h) (Or.inl ⟨by rfl, ?_⟩) ?_ ?_
       rotate_left
       ·intro w'
        go_simp
        with_reducible rfl
       rotate_left
       ·simp only [Act.put, sA, sZ, sS, i64_w, i32_w]
        rfl
       exact norm_ (by simp only [putAll, Act.put, sA, sZ, sS]) (hCont (.slice Ao190 t283.length co190, .slice Ao191 t289.length co191, v296, gb299) _ ⟨hHeld, (kr (Kd.R_mono HO285.out (fun _ hk => hk.2))), (kr (Kd.R_mono HO291.out (fun _ hk => ⟨hk.2, ⟨hk.1.1.1.2, ⟨hk.1.1.2, hk.1.2⟩⟩⟩))), (kr (Kd.R_mono HO297.out (fun _ hk => ⟨hk.2, ⟨hk.1.1.1.2, ⟨hk.1.1.2, hk.1.2⟩⟩⟩))), (kr (Kd.R_mono HO_241003.out (fun _ hk => ⟨hk.1.2, ⟨hk.2, ⟨hk.1.1.1, hk.1.1.2⟩⟩⟩))), (kr (Kd.R_mono HO_246001.out (fun _ hk => hk.2))), (kr (Kd.R_mono HO_253003.out (fun _ hk => ⟨hk.1.2, ⟨hk.2, ⟨hk.1.1.1, hk.1.1.2⟩⟩⟩))), (kr (Kd.R_mono HO_261003.out (fun _ hk => ⟨hk.1.2, ⟨hk.2, ⟨hk.1.1.1, hk.1.1.2⟩⟩⟩))), (bk BK219.out), (bk BK220.out), (bk BK240.out), (bk BK245.out), (bk BK252.out), (bk BK260.out), (bk BK299.out), GW299.out, GE299.out, NB219_299.out, NB299_219.out, NB220_299.out, NB299_220.out, NB240_299.out, NB299_240.out, NB245_299.out, NB299_245.out, NB252_299.out, NB299_252.out, NB260_299.out, NB299_260.out, (bl HB.out)⟩)
     rintro ⟨v284, v290, v296, gb299⟩ w193 ⟨hS_, h0_, h1_, h2_, h3_, h4_, h5_, h6_, h7_, h8_, h9_, h10_, h11_, h12_, h13_, h14_, h15_, h16_, h17_, h18_, h19_, h20_, h21_, h22_, h23_, h24_, h25_, h26_, h27_, h28_⟩
     have n0_ : Aside0 (Kd.R (Kd.int .i64) 3 w193 w.heap.size (fun k_ => some k_ ≠ (.slice Ao54 t275.length co54 : Value).ownBlock) v284 t283) := ⟨h0_⟩
     have n1_ : Aside0 (Kd.R (Kd.int .u8) 5 w193 w.heap.size (fun k_ => some k_ ≠ (v296 : Value).ownBlock ∧ some k_ ≠ (.slice Ao44 t236.length co44 : Value).ownBlock ∧ some k_ ≠ (.slice Ao64 t277.length co64 : Value).ownBlock ∧ some k_ ≠ (.slice Ao74 t256.length co74 : Value).ownBlock) v290 t289) := ⟨h1_⟩
     have n2_ : Aside0 (Kd.R (Kd.int .u8) 5 w193 w.heap.size (fun k_ => some k_ ≠ (v290 : Value).ownBlock ∧ some k_ ≠ (.slice Ao44 t236.length co44 : Value).ownBlock ∧ some k_ ≠ (.slice Ao64 t277.length co64 : Value).ownBlock ∧ some k_ ≠ (.slice Ao74 t256.length co74 : Value).ownBlock) v296 t295) := ⟨h2_⟩
     have n3_ : Aside0 (Kd.R (Kd.int .u8) 5 w193 w.heap.size (fun k_ => some k_ ≠ (v290 : Value).ownBlock ∧ some k_ ≠ (v296 : Value).ownBlock ∧ some k_ ≠ (.slice Ao64 t277.length co64 : Value).ownBlock ∧ some k_ ≠ (.slice Ao74 t256.length co74 : Value).ownBlock) (.slice Ao44 t236.length co44) t236) := ⟨h3_⟩
     have n4_ : Aside0 (Kd.R (Kd.int .i64) 3 w193 w.heap.size (fun k_ => some k_ ≠ (v284 : Value).ownBlock) (.slice Ao54 t275.length co54) t275) := ⟨h4_⟩
     have n5_ : Aside0 (Kd.R (Kd.int .u8) 5 w193 w.heap.size (fun k_ => some k_ ≠ (v290 : Value).ownBlock ∧ some k_ ≠ (v296 : Value).ownBlock ∧ some k_ ≠ (.slice Ao44 t236.length co44 : Value).ownBlock ∧ some k_ ≠ (.slice Ao74 t256.length co74 : Value).ownBlock) (.slice Ao64 t277.length co64) t277) := ⟨h5_⟩
     have n6_ : Aside0 (Kd.R (Kd.int .u8) 5 w193 w.heap.size (fun k_ => some k_ ≠ (v290 : Value).ownBlock ∧ some k_ ≠ (v296 : Value).ownBlock ∧ some k_ ≠ (.slice Ao44 t236.length co44 : Value).ownBlock ∧ some k_ ≠ (.slice Ao64 t277.length co64 : Value).ownBlock) (.slice Ao74 t256.length co74) t280) := ⟨h6_⟩
     have n7_ : Aside0 (w193.heap[gb219]? = some (.cells #[.int .i64 a0_0, .slice A0_1 l0_1.length c0_1] 44 (0, 0))) := ⟨h7_⟩
     have n8_ : Aside0 (w193.heap[gb220]? = some (.cells #[.int .i64 a1_0, .int .i64 a1_1, .int .i64 a1_2, .slice A1_3 l1_3.length c1_3] 45 (0, 0))) := ⟨h8_⟩
     have n9_ : Aside0 (w193.heap[gb240]? = some (.cells #[.int .i64 t233, .int .i64 t234, .int .i64 t235, .slice Ao44 t236.length co44] 28 (0, 0))) := ⟨h9_⟩
     have n10_ : Aside0 (w193.heap[gb245]? = some (.cells #[.int .i64 t241, .slice Ao54 t275.length co54] 26 (0, 0))) := ⟨h10_⟩
     have n11_ : Aside0 (w193.heap[gb252]? = some (.cells #[.int .i64 t246, .int .i64 t247, .int .i64 t248, .slice Ao64 t277.length co64] 28 (0, 0))) := ⟨h11_⟩
     have n12_ : Aside0 (w193.heap[gb260]? = some (.cells #[.int .i64 t253, .int .i64 t254, .int .i64 t255, .slice Ao74 t256.length co74] 28 (0, 0))) := ⟨h12_⟩
     have n13_ : Aside0 (w193.heap[gb299]? = some (.cells #[.int .i64 0, .int .i64 0, .int .i64 0, .slice none 0 0] 28 (0, 0))) := ⟨h13_⟩
     have n14_ : Aside0 (w.heap.size ≤ gb299) := ⟨h14_⟩
     have n15_ : Aside0 (w.heap.size ≤ gb299) := ⟨h15_⟩
     have n16_ : Aside0 (gb219 ≠ gb299) := ⟨h16_⟩
     have n17_ : Aside0 (gb299 ≠ gb219) := ⟨h17_⟩
     have n18_ : Aside0 (gb220 ≠ gb299) := ⟨h18_⟩
     have n19_ : Aside0 (gb299 ≠ gb220) := ⟨h19_⟩
     have n20_ : Aside0 (gb240 ≠ gb299) := ⟨h20_⟩
     have n21_ : Aside0 (gb299 ≠ gb240) := ⟨h21_⟩
     have n22_ : Aside0 (gb245 ≠ gb299) := ⟨h22_⟩
     have n23_ : Aside0 (gb299 ≠ gb245) := ⟨h23_⟩
     have n24_ : Aside0 (gb252 ≠ gb299) := ⟨h24_⟩
     have n25_ : Aside0 (gb299 ≠ gb252) := ⟨h25_⟩
     have n26_ : Aside0 (gb260 ≠ gb299) := ⟨h26_⟩
     have n27_ : Aside0 (gb299 ≠ gb260) := ⟨h27_⟩
     have n28_ : Aside0 (Below w.heap.size w w193) := ⟨h28_⟩
     clear HO_241003 HO_246001
     clear HO_253003 HO_261003
     clear BK219 BK220
     clear BK240 BK245
     clear BK252 BK260 HB
     clear h0_ h1_ h2_ h3_ h4_ h5_ h6_ h7_ h8_ h9_ h10_ h11_ h12_ h13_ h14_ h15_ h16_ h17_ h18_ h19_ h20_ h21_ h22_ h23_ h24_ h25_ h26_ h27_ h28_
     have HO285 := n0_
     have HO291 := n1_
     have HO297 := n2_
     have HO_241003 := n3_
     have HO_246001 := n4_
     have HO_253003 := n5_
     have HO_261003 := n6_
     have BK219 := n7_
     have BK220 := n8_
     have BK240 := n9_
     have BK245 := n10_
     have BK252 := n11_
     have BK260 := n12_
     have BK299 := n13_
     have GW299 := n14_
     have GE299 := n15_
     have NB219_299 := n16_
     have NB299_219 := n17_
     have NB220_299 := n18_
     have NB299_220 := n19_
     have NB240_299 := n20_
     have NB299_240 := n21_
     have NB245_299 := n22_
     have NB299_245 := n23_
     have NB252_299 := n24_
     have NB299_252 := n25_
     have NB260_299 := n26_
     have NB299_260 := n27_
     have HB := n28_
     clear n0_ n1_ n2_ n3_ n4_ n5_ n6_ n7_ n8_ n9_ n10_ n11_ n12_ n13_ n14_ n15_ n16_ n17_ n18_ n19_ n20_ n21_ n22_ n23_ n24_ n25_ n26_ n27_ n28_
     have hHeld : w193.cell? ⟨gb219, 0, none⟩ = some (.int .i64 a0_0) ∧ w193.cell? ⟨gb219, 1, none⟩ = some (.slice A0_1 l0_1.length c0_1) ∧ w193.cell? ⟨gb220, 0, none⟩ = some (.int .i64 a1_0) ∧ w193.cell? ⟨gb220, 1, none⟩ = some (.int .i64 a1_1) ∧ w193.cell? ⟨gb220, 2, none⟩ = some (.int .i64 a1_2) ∧ w193.cell? ⟨gb220, 3, none⟩ = some (.slice A1_3 l1_3.length c1_3) := hS_
     obtain ⟨Ao197, co197, eo197⟩ := Kd.R_slice HO297.out
     (first | subst eo197 | (injection eo197 with f1_ f2_ f3_; have f4_ := f1_.symm; have f5_ := f3_.symm; clear f1_ f2_ f3_; subst f4_; subst f5_))
     refine norm_ (a' := ?_) ?_ ?_
     rotate_left
     ·simp only [putAll, Act.put, sA, sZ, sS]
      rfl
     refine one_ (i := 9) (N := none) #[Y,Y,Y,Y,Y,Y,Y,Y,Y,Y,U] rfl rfl (one_of HT_.out (by kernel_rfl)) (by decide) (fun K hK => ?_)
     have hs194 := cI BK299.out 0
     have hfs194 := bF BK299.out 0
     have hns194_0 := NB219_299.out
     have hns194_1 := NB220_299.out
     have hns194_2 := NB240_299.out
     have hns194_3 := NB245_299.out
     have hns194_4 := NB252_299.out
     have hns194_5 := NB260_299.out
     have hms194_0 := NB299_219.out
     have hms194_1 := NB299_220.out
     have hms194_2 := NB299_240.out
     have hms194_3 := NB299_245.out
     have hms194_4 := NB299_252.out
     have hms194_5 := NB299_260.out
     have hs195 := cI BK299.out 1
     have hfs195 := bF BK299.out 1
     have hns195_0 := NB219_299.out
     have hns195_1 := NB220_299.out
     have hns195_2 := NB240_299.out
     have hns195_3 := NB245_299.out
     have hns195_4 := NB252_299.out
     have hns195_5 := NB260_299.out
     have hms195_0 := NB299_219.out
     have hms195_1 := NB299_220.out
     have hms195_2 := NB299_240.out
     have hms195_3 := NB299_245.out
     have hms195_4 := NB299_252.out
     have hms195_5 := NB299_260.out
     have hs196 := cI BK299.out 2
     have hfs196 := bF BK299.out 2
     have hns196_0 := NB219_299.out
     have hns196_1 := NB220_299.out
     have hns196_2 := NB240_299.out
     have hns196_3 := NB245_299.out
     have hns196_4 := NB252_299.out
     have hns196_5 := NB260_299.out
     have hms196_0 := NB299_219.out
     have hms196_1 := NB299_220.out
     have hms196_2 := NB299_240.out
     have hms196_3 := NB299_245.out
     have hms196_4 := NB299_252.out
     have hms196_5 := NB299_260.out
     have hs198 := cI BK299.out 3
     have hfs198 := bF BK299.out 3
     have hns198_0 := NB219_299.out
     have hns198_1 := NB220_299.out
     have hns198_2 := NB240_299.out
     have hns198_3 := NB245_299.out
     have hns198_4 := NB252_299.out
     have hns198_5 := NB260_299.out
     have hms198_0 := NB299_219.out
     have hms198_1 := NB299_220.out
     have hms198_2 := NB299_240.out
     have hms198_3 := NB299_245.out
     have hms198_4 := NB299_252.out
     have hms198_5 := NB299_260.out
     refine skip_ (w1 := ?_) (by rfl) rfl ?_ ?_
     rotate_left
     ·go_simp
      rfl
     refine hK.out _ _ ⟨((cell_far (p := ⟨gb299, _, none⟩) NB219_299.out _).trans (((cell_far (p := ⟨gb299, _, none⟩) NB219_299.out _).trans (((cell_far (p := ⟨gb299, _, none⟩) NB219_299.out _).trans (((cell_far (p := ⟨gb299, _, none⟩) NB219_299.out _).trans (hHeld.1)))))))), ((cell_far (p := ⟨gb299, _, none⟩) NB219_299.out _).trans (((cell_far (p := ⟨gb299, _, none⟩) NB219_299.out _).trans (((cell_far (p := ⟨gb299, _, none⟩) NB219_299.out _).trans (((cell_far (p := ⟨gb299, _, none⟩) NB219_299.out _).trans (hHeld.2.1)))))))), ((cell_far (p := ⟨gb299, _, none⟩) NB220_299.out _).trans (((cell_far (p := ⟨gb299, _, none⟩) NB220_299.out _).trans (((cell_far (p := ⟨gb299, _, none⟩) NB220_299.out _).trans (((cell_far (p := ⟨gb299, _, none⟩) NB220_299.out _).trans (hHeld.2.2.1)))))))), ((cell_far (p := ⟨gb299, _, none⟩) NB220_299.out _).trans (((cell_far (p := ⟨gb299, _, none⟩) NB220_299.out _).trans (((cell_far (p := ⟨gb299, _, none⟩) NB220_299.out _).trans (((cell_far (p := ⟨gb299, _, none⟩) NB220_299.out _).trans (hHeld.2.2.2.1)))))))), ((cell_far (p := ⟨gb299, _, none⟩) NB220_299.out _).trans (((cell_far (p := ⟨gb299, _, none⟩) NB220_299.out _).trans (((cell_far (p := ⟨gb299, _, none⟩) NB220_299.out _).trans (((cell_far (p := ⟨gb299, _, none⟩) NB220_299.out _).trans (hHeld.2.2.2.2.1)))))))), ((cell_far (p := ⟨gb299, _, none⟩) NB220_299.out _).trans (((cell_far (p := ⟨gb299, _, none⟩) NB220_299.out _).trans (((cell_far (p := ⟨gb299, _, none⟩) NB220_299.out _).trans (((cell_far (p := ⟨gb299, _, none⟩) NB220_299.out _).trans (hHeld.2.2.2.2.2))))))))⟩ (fun hHeld => ?_)
     clear hK K
     refine pure_ (i := 10) (N := some 16) (v := ?_) (a' := ?_) #[Y,Y,Y,Y,Y,Y,Y,Y,Y,Y,Y] rfl rfl (any_of HT_.out (by kernel_rfl)) (fun _ _ _ h => h) (Or.inl ⟨by rfl, ?_⟩) ?_ ?_
     rotate_left
     ·intro w'
      go_simp
      with_reducible rfl
     rotate_left
     ·simp only [Act.put, sA, sZ, sS, i64_w, i32_w]
      rfl
     refine done_ (done_of HT_.out (by kernel_rfl)) ?_
     go_upto_region 32 with (fail)
     go_cut [110] (fun v110 wc => ∃ (kq : Nat) (x110_175 : Bool), v110 = .bool x110_175 ∧ Aside0 (laws_FnExactOutside.j2 kq t279 x110_175 t253 t254 t255 t280 = some true) ∧ Aside0 (kq ≤ kj109) ∧ Aside0 (Kd.R (Kd.int .u8) 5 wc w.heap.size (fun k_ => some k_ ≠ ((.slice Ao64 t277.length co64) : Value).ownBlock ∧ some k_ ≠ ((.slice Ao74 t256.length co74) : Value).ownBlock ∧ some k_ ≠ ((.slice Ao197 t295.length co197) : Value).ownBlock) (.slice Ao44 t236.length co44) t236) ∧ Aside0 (Kd.R (Kd.int .i64) 3 wc w.heap.size (fun _ => True) (.slice Ao54 t275.length co54) t275) ∧ Aside0 (Kd.R (Kd.int .u8) 5 wc w.heap.size (fun k_ => some k_ ≠ ((.slice Ao44 t236.length co44) : Value).ownBlock ∧ some k_ ≠ ((.slice Ao74 t256.length co74) : Value).ownBlock ∧ some k_ ≠ ((.slice Ao197 t295.length co197) : Value).ownBlock) (.slice Ao64 t277.length co64) t277) ∧ Aside0 (Kd.R (Kd.int .u8) 5 wc w.heap.size (fun k_ => some k_ ≠ ((.slice Ao44 t236.length co44) : Value).ownBlock ∧ some k_ ≠ ((.slice Ao64 t277.length co64) : Value).ownBlock ∧ some k_ ≠ ((.slice Ao197 t295.length co197) : Value).ownBlock) (.slice Ao74 t256.length co74) t280) ∧ Aside0 (Kd.R (Kd.int .u8) 5 wc w.heap.size (fun k_ => some k_ ≠ ((.slice Ao44 t236.length co44) : Value).ownBlock ∧ some k_ ≠ ((.slice Ao64 t277.length co64) : Value).ownBlock ∧ some k_ ≠ ((.slice Ao74 t256.length co74) : Value).ownBlock) (.slice Ao197 t295.length co197) t295) ∧ Aside0 (wc.heap[gb219]? = some (.cells #[.int .i64 a0_0, (.slice A0_1 l0_1.length c0_1)] 44 (0, 0))) ∧ Aside0 (wc.heap[gb220]? = some (.cells #[.int .i64 a1_0, .int .i64 a1_1, .int .i64 a1_2, (.slice A1_3 l1_3.length c1_3)] 45 (0, 0))) ∧ Aside0 (wc.heap[gb240]? = some (.cells #[.int .i64 t233, .int .i64 t234, .int .i64 t235, (.slice Ao44 t236.length co44)] 28 (0, 0))) ∧ Aside0 (wc.heap[gb245]? = some (.cells #[.int .i64 t241, (.slice Ao54 t275.length co54)] 26 (0, 0))) ∧ Aside0 (wc.heap[gb252]? = some (.cells #[.int .i64 t246, .int .i64 t247, .int .i64 t248, (.slice Ao64 t277.length co64)] 28 (0, 0))) ∧ Aside0 (wc.heap[gb260]? = some (.cells #[.int .i64 t253, .int .i64 t254, .int .i64 t255, (.slice Ao74 t256.length co74)] 28 (0, 0))) ∧ Aside0 (wc.heap[gb299]? = some (.cells #[.int .i64 t292, .int .i64 t293, .int .i64 t294, (.slice Ao197 t295.length co197)] 28 (0, 0))) ∧ Aside0 (Below w.heap.size w wc))
     case first =>
      have H := HC176.out
      clear HC176
      replace H := Option.bind_eq_some_iff.mp H
      obtain ⟨t300, A1990, H⟩ := H
      replace H : (if t300 = true then (laws_FnExactOutside.j2 kj109 t279 (t298 != t239) t253 t254 t255 t280) else (laws_FnExactOutside.j2 kj109 t279 true t253 t254 t255 t280)) = some true := H
      have A199 := aM A1990
      clear A1990
      by_cases c200 : t300 = true
      case neg =>
       replace c200 := Bool.eq_false_iff.mpr c200
       subst c200
       have H1 : (laws_FnExactOutside.j2 kj109 t279 true t253 t254 t255 t280) = some true := by first | (rw [if_neg (show ¬ (false = true) by decide)] at H; exact H) | (rw [if_neg (show ¬ (false = true) by decide)] at H)
       clear H
       have H := H1
       clear H1
       exact absurd H (by cases kj109 <;> (simp only [laws_FnExactOutside.j2, if_true]) <;> decide)
      subst c200
      have H1 : (laws_FnExactOutside.j2 kj109 t279 (t298 != t239) t253 t254 t255 t280) = some true := by first | (rw [if_pos rfl] at H; exact H) | (rw [if_pos rfl] at H)
      clear H
      have H := H1
      clear H1
      have H' := aM H
      clear H
      have hnb201 := NB299_219.out
      have hnc201 := NB219_299.out
      have hnb202 := NB299_220.out
      have hnc202 := NB220_299.out
      have hnb203 := NB299_240.out
      have hnc203 := NB240_299.out
      have hnb204 := NB299_245.out
      have hnc204 := NB245_299.out
      have hnb205 := NB299_252.out
      have hnc205 := NB252_299.out
      have hnb206 := NB299_260.out
      have hnc206 := NB260_299.out
      have hcz207_0 := cI BK299.out 0
      have hcz207_1 := cI BK299.out 1
      have hcz207_2 := cI BK299.out 2
      have hcz207_3 := cI BK299.out 3
      have hfz207_0 := bF BK299.out 0
      have hfz207_1 := bF BK299.out 1
      have hfz207_2 := bF BK299.out 2
      have hfz207_3 := bF BK299.out 3
      have hnb208 := NB240_219.out
      have hnc208 := NB219_240.out
      have hnb209 := NB240_220.out
      have hnc209 := NB220_240.out
      have hnb210 := NB240_245.out
      have hnc210 := NB245_240.out
      have hnb211 := NB240_252.out
      have hnc211 := NB252_240.out
      have hnb212 := NB240_260.out
      have hnc212 := NB260_240.out
      have hcz213_0 := cI BK240.out 0
      have hcz213_1 := cI BK240.out 1
      have hcz213_2 := cI BK240.out 2
      have hcz213_3 := cI BK240.out 3
      have hfz213_0 := bF BK240.out 0
      have hfz213_1 := bF BK240.out 1
      have hfz213_2 := bF BK240.out 2
      have hfz213_3 := bF BK240.out 3
      go_wp2_with (first | ((with_reducible refine gate_callee (f := 34) rfl ?_); refine goesL_ (some 104) rfl rfl Try.func34 (by kernel_rfl) rfl #[.agg #[.int .i64 t292, .int .i64 t293, .int .i64 t294, .slice Ao197 t295.length co197], .agg #[.int .i64 t233, .int .i64 t234, .int .i64 t235, .slice Ao44 t236.length co44]] rfl xR ?_; (with_reducible refine (laws_eqFrame.calls kj109 t292 t293 t294 _ _ t295 t233 t234 t235 _ _ t236 true _ ?side1 ?side2 ?side3 ?side4 A199.out).mono ?_); (case side1 => refine (Kd.R_reads' (e := 5) (base := w.heap.size) (ok := fun k_ => (some k_ ≠ (v290 : Value).ownBlock ∧ (some k_ ≠ (.slice Ao44 t236.length co44 : Value).ownBlock ∧ (some k_ ≠ (.slice Ao64 t277.length co64 : Value).ownBlock ∧ some k_ ≠ (.slice Ao74 t256.length co74 : Value).ownBlock)))) (n := t295.length) (c := co197) ?_).2.2; exact (kr (Kd.R_mono (kF (p := ⟨gb299, 3, none⟩) (kF (p := ⟨gb299, 2, none⟩) (kF (p := ⟨gb299, 1, none⟩) (kF (p := ⟨gb299, 0, none⟩) (Kd.R_types HO297.out BK299.out (by decide)) (fun _ hk => hk.2) (.int .i64 t292)) (fun _ hk => hk.2) (.int .i64 t293)) (fun _ hk => hk.2) (.int .i64 t294)) (fun _ hk => hk.2) (.slice Ao197 t295.length co197)) (fun _ h_ => h_.1)))); (case side2 => exact (Kd.R_reads' HO297.out).2.1); (case side3 => refine (Kd.R_reads' (e := 5) (base := w.heap.size) (ok := fun k_ => (some k_ ≠ (v290 : Value).ownBlock ∧ (some k_ ≠ (.slice Ao197 t295.length co197 : Value).ownBlock ∧ (some k_ ≠ (.slice Ao64 t277.length co64 : Value).ownBlock ∧ some k_ ≠ (.slice Ao74 t256.length co74 : Value).ownBlock)))) (n := t236.length) (c := co44) ?_).2.2; exact (kr (Kd.R_mono (kF (p := ⟨gb299, 3, none⟩) (kF (p := ⟨gb299, 2, none⟩) (kF (p := ⟨gb299, 1, none⟩) (kF (p := ⟨gb299, 0, none⟩) (Kd.R_types HO_241003.out BK299.out (by decide)) (fun _ hk => hk.2) (.int .i64 t292)) (fun _ hk => hk.2) (.int .i64 t293)) (fun _ hk => hk.2) (.int .i64 t294)) (fun _ hk => hk.2) (.slice Ao197 t295.length co197)) (fun _ h_ => h_.1)))); (case side4 => exact (Kd.R_reads' HO_241003.out).2.1); rintro e w214 ⟨rfl, hb⟩; refine ⟨_, rfl, ?_⟩; have n0_ := aM (kB (kr (Kd.R_mono (kF (p := ⟨gb299, 3, none⟩) (kF (p := ⟨gb299, 2, none⟩) (kF (p := ⟨gb299, 1, none⟩) (kF (p := ⟨gb299, 0, none⟩) (Kd.R_types HO_241003.out BK299.out (by decide)) (fun _ hk => hk.2) (.int .i64 t292)) (fun _ hk => hk.2) (.int .i64 t293)) (fun _ hk => hk.2) (.int .i64 t294)) (fun _ hk => hk.2) (.slice Ao197 t295.length co197)) (fun _ h_ => h_.1))) hb); have n1_ := aM (kB (kr (Kd.R_mono (kF (p := ⟨gb299, 3, none⟩) (kF (p := ⟨gb299, 2, none⟩) (kF (p := ⟨gb299, 1, none⟩) (kF (p := ⟨gb299, 0, none⟩) (Kd.R_types HO_246001.out BK299.out (by decide)) (fun _ hk => hk.2) (.int .i64 t292)) (fun _ hk => hk.2) (.int .i64 t293)) (fun _ hk => hk.2) (.int .i64 t294)) (fun _ hk => hk.2) (.slice Ao197 t295.length co197)) (fun _ h_ => h_.1))) hb); have n2_ := aM (kB (kr (Kd.R_mono (kF (p := ⟨gb299, 3, none⟩) (kF (p := ⟨gb299, 2, none⟩) (kF (p := ⟨gb299, 1, none⟩) (kF (p := ⟨gb299, 0, none⟩) (Kd.R_types HO_253003.out BK299.out (by decide)) (fun _ hk => hk.2) (.int .i64 t292)) (fun _ hk => hk.2) (.int .i64 t293)) (fun _ hk => hk.2) (.int .i64 t294)) (fun _ hk => hk.2) (.slice Ao197 t295.length co197)) (fun _ h_ => h_.1))) hb); have n3_ := aM (kB (kr (Kd.R_mono (kF (p := ⟨gb299, 3, none⟩) (kF (p := ⟨gb299, 2, none⟩) (kF (p := ⟨gb299, 1, none⟩) (kF (p := ⟨gb299, 0, none⟩) (Kd.R_types HO_261003.out BK299.out (by decide)) (fun _ hk => hk.2) (.int .i64 t292)) (fun _ hk => hk.2) (.int .i64 t293)) (fun _ hk => hk.2) (.int .i64 t294)) (fun _ hk => hk.2) (.slice Ao197 t295.length co197)) (fun _ h_ => h_.1))) hb); have n4_ := aM (kB (kr (Kd.R_mono (kF (p := ⟨gb299, 3, none⟩) (kF (p := ⟨gb299, 2, none⟩) (kF (p := ⟨gb299, 1, none⟩) (kF (p := ⟨gb299, 0, none⟩) (Kd.R_types HO285.out BK299.out (by decide)) (fun _ hk => hk.2) (.int .i64 t292)) (fun _ hk => hk.2) (.int .i64 t293)) (fun _ hk => hk.2) (.int .i64 t294)) (fun _ hk => hk.2) (.slice Ao197 t295.length co197)) (fun _ h_ => h_.1))) hb); have n5_ := aM (kB (kr (Kd.R_mono (kF (p := ⟨gb299, 3, none⟩) (kF (p := ⟨gb299, 2, none⟩) (kF (p := ⟨gb299, 1, none⟩) (kF (p := ⟨gb299, 0, none⟩) (Kd.R_types HO291.out BK299.out (by decide)) (fun _ hk => hk.2) (.int .i64 t292)) (fun _ hk => hk.2) (.int .i64 t293)) (fun _ hk => hk.2) (.int .i64 t294)) (fun _ hk => hk.2) (.slice Ao197 t295.length co197)) (fun _ h_ => h_.1))) hb); have n6_ := aM (kB (kr (Kd.R_mono (kF (p := ⟨gb299, 3, none⟩) (kF (p := ⟨gb299, 2, none⟩) (kF (p := ⟨gb299, 1, none⟩) (kF (p := ⟨gb299, 0, none⟩) (Kd.R_types HO297.out BK299.out (by decide)) (fun _ hk => hk.2) (.int .i64 t292)) (fun _ hk => hk.2) (.int .i64 t293)) (fun _ hk => hk.2) (.int .i64 t294)) (fun _ hk => hk.2) (.slice Ao197 t295.length co197)) (fun _ h_ => h_.1))) hb); have n7_ := aM (bB (g := gb219) (o := .cells #[.int .i64 a0_0, .slice A0_1 l0_1.length c0_1] 44 (0, 0)) (by (with_reducible repeat (first | refine blk_drewN ?_ _ | refine blk_drew ?_ | refine blk_alloc ?_ _)); refine blk_far ?_ NB219_299.out _; (with_reducible repeat (first | refine blk_drewN ?_ _ | refine blk_drew ?_ | refine blk_alloc ?_ _)); refine blk_far ?_ NB219_299.out _; (with_reducible repeat (first | refine blk_drewN ?_ _ | refine blk_drew ?_ | refine blk_alloc ?_ _)); refine blk_far ?_ NB219_299.out _; (with_reducible repeat (first | refine blk_drewN ?_ _ | refine blk_drew ?_ | refine blk_alloc ?_ _)); refine blk_far ?_ NB219_299.out _; (with_reducible repeat (first | refine blk_drewN ?_ _ | refine blk_drew ?_ | refine blk_alloc ?_ _)); exact BK219.out) hb); have n8_ := aM (bB (g := gb220) (o := .cells #[.int .i64 a1_0, .int .i64 a1_1, .int .i64 a1_2, .slice A1_3 l1_3.length c1_3] 45 (0, 0)) (by (with_reducible repeat (first | refine blk_drewN ?_ _ | refine blk_drew ?_ | refine blk_alloc ?_ _)); refine blk_far ?_ NB220_299.out _; (with_reducible repeat (first | refine blk_drewN ?_ _ | refine blk_drew ?_ | refine blk_alloc ?_ _)); refine blk_far ?_ NB220_299.out _; (with_reducible repeat (first | refine blk_drewN ?_ _ | refine blk_drew ?_ | refine blk_alloc ?_ _)); refine blk_far ?_ NB220_299.out _; (with_reducible repeat (first | refine blk_drewN ?_ _ | refine blk_drew ?_ | refine blk_alloc ?_ _)); refine blk_far ?_ NB220_299.out _; (with_reducible repeat (first | refine blk_drewN ?_ _ | refine blk_drew ?_ | refine blk_alloc ?_ _)); exact BK220.out) hb); have n9_ := aM (bB (g := gb240) (o := .cells #[.int .i64 t233, .int .i64 t234, .int .i64 t235, .slice Ao44 t236.length co44] 28 (0, 0)) (by (with_reducible repeat (first | refine blk_drewN ?_ _ | refine blk_drew ?_ | refine blk_alloc ?_ _)); refine blk_far ?_ NB240_299.out _; (with_reducible repeat (first | refine blk_drewN ?_ _ | refine blk_drew ?_ | refine blk_alloc ?_ _)); refine blk_far ?_ NB240_299.out _; (with_reducible repeat (first | refine blk_drewN ?_ _ | refine blk_drew ?_ | refine blk_alloc ?_ _)); refine blk_far ?_ NB240_299.out _; (with_reducible repeat (first | refine blk_drewN ?_ _ | refine blk_drew ?_ | refine blk_alloc ?_ _)); refine blk_far ?_ NB240_299.out _; (with_reducible repeat (first | refine blk_drewN ?_ _ | refine blk_drew ?_ | refine blk_alloc ?_ _)); exact BK240.out) hb); have n10_ := aM (bB (g := gb245) (o := .cells #[.int .i64 t241, .slice Ao54 t275.length co54] 26 (0, 0)) (by (with_reducible repeat (first | refine blk_drewN ?_ _ | refine blk_drew ?_ | refine blk_alloc ?_ _)); refine blk_far ?_ NB245_299.out _; (with_reducible repeat (first | refine blk_drewN ?_ _ | refine blk_drew ?_ | refine blk_alloc ?_ _)); refine blk_far ?_ NB245_299.out _; (with_reducible repeat (first | refine blk_drewN ?_ _ | refine blk_drew ?_ | refine blk_alloc ?_ _)); refine blk_far ?_ NB245_299.out _; (with_reducible repeat (first | refine blk_drewN ?_ _ | refine blk_drew ?_ | refine blk_alloc ?_ _)); refine blk_far ?_ NB245_299.out _; (with_reducible repeat (first | refine blk_drewN ?_ _ | refine blk_drew ?_ | refine blk_alloc ?_ _)); exact BK245.out) hb); have n11_ := aM (bB (g := gb252) (o := .cells #[.int .i64 t246, .int .i64 t247, .int .i64 t248, .slice Ao64 t277.length co64] 28 (0, 0)) (by (with_reducible repeat (first | refine blk_drewN ?_ _ | refine blk_drew ?_ | refine blk_alloc ?_ _)); refine blk_far ?_ NB252_299.out _; (with_reducible repeat (first | refine blk_drewN ?_ _ | refine blk_drew ?_ | refine blk_alloc ?_ _)); refine blk_far ?_ NB252_299.out _; (with_reducible repeat (first | refine blk_drewN ?_ _ | refine blk_drew ?_ | refine blk_alloc ?_ _)); refine blk_far ?_ NB252_299.out _; (with_reducible repeat (first | refine blk_drewN ?_ _ | refine blk_drew ?_ | refine blk_alloc ?_ _)); refine blk_far ?_ NB252_299.out _; (with_reducible repeat (first | refine blk_drewN ?_ _ | refine blk_drew ?_ | refine blk_alloc ?_ _)); exact BK252.out) hb); have n12_ := aM (bB (g := gb260) (o := .cells #[.int .i64 t253, .int .i64 t254, .int .i64 t255, .slice Ao74 t256.length co74] 28 (0, 0)) (by (with_reducible repeat (first | refine blk_drewN ?_ _ | refine blk_drew ?_ | refine blk_alloc ?_ _)); refine blk_far ?_ NB260_299.out _; (with_reducible repeat (first | refine blk_drewN ?_ _ | refine blk_drew ?_ | refine blk_alloc ?_ _)); refine blk_far ?_ NB260_299.out _; (with_reducible repeat (first | refine blk_drewN ?_ _ | refine blk_drew ?_ | refine blk_alloc ?_ _)); refine blk_far ?_ NB260_299.out _; (with_reducible repeat (first | refine blk_drewN ?_ _ | refine blk_drew ?_ | refine blk_alloc ?_ _)); refine blk_far ?_ NB260_299.out _; (with_reducible repeat (first | refine blk_drewN ?_ _ | refine blk_drew ?_ | refine blk_alloc ?_ _)); exact BK260.out) hb); have n13_ := aM (bB (g := gb299) (o := .cells #[.int .i64 t292, .int .i64 t293, .int .i64 t294, .slice Ao197 t295.length co197] 28 (0, 0)) (by (with_reducible repeat (first | refine blk_drewN ?_ _ | refine blk_drew ?_ | refine blk_alloc ?_ _)); refine blk_put (cs := #[.int .i64 t292, .int .i64 t293, .int .i64 t294, .slice none 0 0]) ?_ 3 _ rfl; (with_reducible repeat (first | refine blk_drewN ?_ _ | refine blk_drew ?_ | refine blk_alloc ?_ _)); refine blk_put (cs := #[.int .i64 t292, .int .i64 t293, .int .i64 0, .slice none 0 0]) ?_ 2 _ rfl; (with_reducible repeat (first | refine blk_drewN ?_ _ | refine blk_drew ?_ | refine blk_alloc ?_ _)); refine blk_put (cs := #[.int .i64 t292, .int .i64 0, .int .i64 0, .slice none 0 0]) ?_ 1 _ rfl; (with_reducible repeat (first | refine blk_drewN ?_ _ | refine blk_drew ?_ | refine blk_alloc ?_ _)); refine blk_put (cs := #[.int .i64 0, .int .i64 0, .int .i64 0, .slice none 0 0]) ?_ 0 _ rfl; (with_reducible repeat (first | refine blk_drewN ?_ _ | refine blk_drew ?_ | refine blk_alloc ?_ _)); exact BK299.out) hb); have n14_ := aM (bS (bl HB.out) hb); clear HO_241003 HO_246001; clear HO_253003 HO_261003; clear HO285 HO291; clear HO297 BK219; clear BK220 BK240; clear BK245 BK252; clear BK260 BK299 HB; have HO_241003 := n0_; have HO_246001 := n1_; have HO_253003 := n2_; have HO_261003 := n3_; have HO285 := n4_; have HO291 := n5_; have HO297 := n6_; have BK219 := n7_; have BK220 := n8_; have BK240 := n9_; have BK245 := n10_; have BK252 := n11_; have BK260 := n12_; have BK299 := n13_; have HB := n14_; clear n0_ n1_ n2_ n3_ n4_ n5_ n6_ n7_ n8_ n9_ n10_ n11_ n12_ n13_ n14_; (try clear hb); (try clear hb2); (try clear hk); (try clear hi)))
      go_meet
      case rel => exact ⟨_, ((t298 != t239)), (by first | rfl | (simp; done) | (simp [*]; done)), H', ⟨by have := HJ24.out; have := HJ109.out; first | omega | exact Nat.le_refl _⟩, ⟨by (try simp only [hl246001_109]); (try simp only [hl253003_109]); (with_reducible repeat (first | apply Kd.R_alloc | apply Kd.R_drewN | apply Kd.R_drew)); exact Kd.R_mono HO_241003.out (fun _ hk => ⟨hk.2.2.1, ⟨hk.2.2.2, hk.2.1⟩⟩)⟩, ⟨by (try simp only [hl246001_109]); (try simp only [hl253003_109]); (with_reducible repeat (first | apply Kd.R_alloc | apply Kd.R_drewN | apply Kd.R_drew)); exact Kd.R_mono HO_246001.out (fun _ hk => trivial)⟩, ⟨by (try simp only [hl246001_109]); (try simp only [hl253003_109]); (with_reducible repeat (first | apply Kd.R_alloc | apply Kd.R_drewN | apply Kd.R_drew)); exact Kd.R_mono HO_253003.out (fun _ hk => ⟨hk.2.2.1, ⟨hk.2.2.2, hk.2.1⟩⟩)⟩, ⟨by (try simp only [hl246001_109]); (try simp only [hl253003_109]); (with_reducible repeat (first | apply Kd.R_alloc | apply Kd.R_drewN | apply Kd.R_drew)); exact Kd.R_mono HO_261003.out (fun _ hk => ⟨hk.2.2.1, ⟨hk.2.2.2, hk.2.1⟩⟩)⟩, ⟨by (try simp only [hl246001_109]); (try simp only [hl253003_109]); (with_reducible repeat (first | apply Kd.R_alloc | apply Kd.R_drewN | apply Kd.R_drew)); exact Kd.R_mono HO297.out (fun _ hk => ⟨hk.2.1, ⟨hk.2.2.1, hk.2.2.2⟩⟩)⟩, ⟨by (try simp only [hl246001_109]); (try simp only [hl253003_109]); (with_reducible repeat (first | refine blk_drewN ?_ _ | refine blk_drew ?_ | refine blk_alloc ?_ _)); exact BK219.out⟩, ⟨by (try simp only [hl246001_109]); (try simp only [hl253003_109]); (with_reducible repeat (first | refine blk_drewN ?_ _ | refine blk_drew ?_ | refine blk_alloc ?_ _)); exact BK220.out⟩, ⟨by (try simp only [hl246001_109]); (try simp only [hl253003_109]); (with_reducible repeat (first | refine blk_drewN ?_ _ | refine blk_drew ?_ | refine blk_alloc ?_ _)); exact BK240.out⟩, ⟨by (try simp only [hl246001_109]); (try simp only [hl253003_109]); (with_reducible repeat (first | refine blk_drewN ?_ _ | refine blk_drew ?_ | refine blk_alloc ?_ _)); exact BK245.out⟩, ⟨by (try simp only [hl246001_109]); (try simp only [hl253003_109]); (with_reducible repeat (first | refine blk_drewN ?_ _ | refine blk_drew ?_ | refine blk_alloc ?_ _)); exact BK252.out⟩, ⟨by (try simp only [hl246001_109]); (try simp only [hl253003_109]); (with_reducible repeat (first | refine blk_drewN ?_ _ | refine blk_drew ?_ | refine blk_alloc ?_ _)); exact BK260.out⟩, ⟨by (try simp only [hl246001_109]); (try simp only [hl253003_109]); (with_reducible repeat (first | refine blk_drewN ?_ _ | refine blk_drew ?_ | refine blk_alloc ?_ _)); exact BK299.out⟩, ⟨by repeat (first | (with_reducible first | exact HB.out | apply below_alloc | apply pw_below_drewN | apply below_drew1 | refine below_set ?_ GE219.out | refine below_set ?_ GE220.out | refine below_set ?_ GE240.out | refine below_set ?_ GE245.out | refine below_set ?_ GE252.out | refine below_set ?_ GE260.out | refine below_set ?_ GE299.out) | exact HB.out)⟩⟩
     case rest =>
      clear HC176
      try clear c1
      try clear c2
      try clear p2
      try clear c3
      try clear c14
      try clear c20
      try clear c21
      try clear c22
      try clear c32
      try clear c33
      try clear c34
      try clear c200
      try clear c201
      try clear c202
      try clear c203
      try clear c204
      try clear c205
      try clear c206
      try clear c208
      try clear c209
      try clear c210
      try clear c211
      try clear c212
      try clear c215
      try clear c216
      try clear c217
      try clear c218
      try clear c219
      try clear c220
      try clear c222
      try clear c223
      try clear c224
      try clear c225
      try clear c226
      try clear hcz207_0
      try clear hcz207_1
      try clear hcz207_2
      try clear hcz207_3
      try clear hcz213_0
      try clear hcz213_1
      try clear hcz213_2
      try clear hcz213_3
      try clear hcz221_0
      try clear hcz221_1
      try clear hcz221_2
      try clear hcz221_3
      try clear hcz227_0
      try clear hcz227_1
      try clear hcz227_2
      try clear hcz227_3
      try clear hfz207_0
      try clear hfz207_1
      try clear hfz207_2
      try clear hfz207_3
      try clear hfz213_0
      try clear hfz213_1
      try clear hfz213_2
      try clear hfz213_3
      try clear hfz221_0
      try clear hfz221_1
      try clear hfz221_2
      try clear hfz221_3
      try clear hfz227_0
      try clear hfz227_1
      try clear hfz227_2
      try clear hfz227_3
      obtain ⟨kq, x110_175, rfl, HA, HJ175, HO_241003, HO_246001, HO_253003, HO_261003, HO_300003, BK219, BK220, BK240, BK245, BK252, BK260, BK299, HB⟩ := hcut
      have hl261003_175 := (Kd.R_reads' HO_261003.out).1
      rw [hl261003_175] at HO_261003
      (try simp only [hl261003_175])
      (try simp only [hl261003_175] at BK219)
      (try simp only [hl261003_175] at BK220)
      (try simp only [hl261003_175] at BK240)
      (try simp only [hl261003_175] at BK245)
      (try simp only [hl261003_175] at BK252)
      (try simp only [hl261003_175] at BK260)
      (try simp only [hl261003_175] at BK299)
      (try simp only [hl261003_175] at HO_241003)
      (try simp only [hl261003_175] at HO_246001)
      (try simp only [hl261003_175] at HO_253003)
      (try simp only [hl261003_175] at HO_300003)
      cases kq with
      | zero => exact absurd HA.out (by simp [laws_FnExactOutside.j2])
      | succ kj175 =>
       have H := HA.out
       clear HA
       simp only [laws_FnExactOutside.j2] at H
       by_cases c229 : x110_175 = true
       case pos =>
        subst c229
        have H1 : (some false) = some true := by first | (rw [if_pos rfl] at H; exact H) | (rw [if_pos rfl] at H)
        clear H
        have H := H1
        clear H1
        exact absurd (Option.some.inj H) (by decide)
       replace c229 := Bool.eq_false_iff.mpr c229
       subst c229
       have H1 : ((laws_heldFrame.f kj175 t253 t254 t255 t280 1).bind fun t301 => (if t301 < 0 then (some false) else (if t301 = t279 then (some true) else (some false)))) = some true := by first | (rw [if_neg (show ¬ (false = true) by decide)] at H; exact H) | (rw [if_neg (show ¬ (false = true) by decide)] at H)
       clear H
       have H := H1
       clear H1
       replace H := Option.bind_eq_some_iff.mp H
       obtain ⟨t301, A2300, H⟩ := H
       replace H : (if t301 < 0 then (some false) else (if t301 = t279 then (some true) else (some false))) = some true := H
       have A230 := aM A2300
       clear A2300
       by_cases c231 : t301 < 0
       case pos =>
        rw [if_pos c231] at H
        have c231b0 : decide (t301 < 0) = true := decide_eq_true c231
        clear c231
        exact absurd (Option.some.inj H) (by decide)
       rw [if_neg c231] at H
       have c231b0 : decide (t301 < 0) = false := decide_eq_false c231
       clear c231
       by_cases c240 : t301 = t279
       case neg =>
        rw [if_neg c240] at H
        have c240b0 : (t301 == t279) = false := beq_eq_false_iff_ne.mpr c240
        have c240b1 : (t301 != t279) = true := bne_iff_ne.mpr c240
        exact absurd (Option.some.inj H) (by decide)
       rw [if_pos c240] at H
       have c240b0 : (t301 == t279) = true := beq_iff_eq.mpr c240
       have c240b1 : (t301 != t279) = false := bne_eq_false_iff_eq.mpr c240
       clear c240
       clear H
       have hnb241 := NB260_219.out
       have hnc241 := NB219_260.out
       have hnb242 := NB260_220.out
       have hnc242 := NB220_260.out
       have hnb243 := NB260_240.out
       have hnc243 := NB240_260.out
       have hnb244 := NB260_245.out
       have hnc244 := NB245_260.out
       have hnb245 := NB260_252.out
       have hnc245 := NB252_260.out
       have hnb246 := NB260_299.out
       have hnc246 := NB299_260.out
       have hcz247_0 := cI BK260.out 0
       have hcz247_1 := cI BK260.out 1
       have hcz247_2 := cI BK260.out 2
       have hcz247_3 := cI BK260.out 3
       have hfz247_0 := bF BK260.out 0
       have hfz247_1 := bF BK260.out 1
       have hfz247_2 := bF BK260.out 2
       have hfz247_3 := bF BK260.out 3
       go_wp2_with (first | ((with_reducible refine gate_callee (f := 38) rfl ?_); refine goesL_ (some 113) rfl rfl Try.func38 (by kernel_rfl) rfl #[.agg #[.int .i64 t253, .int .i64 t254, .int .i64 t255, .slice Ao74 t280.length co74], .int .i64 1] rfl xR ?_; (with_reducible refine (laws_heldFrame.calls kj175 t253 t254 t255 _ _ t280 1 t301 _ ?side1 ?side2 A230.out).mono ?_); (case side1 => repeat (first | exact (Kd.R_reads' HO_261003.out).2.2 | (with_reducible refine Kd.C_alloc ?_ _) | (with_reducible refine Kd.C_drewN ?_ _) | (with_reducible refine Kd.C_drew ?_))); (case side2 => exact (Kd.R_reads' HO_261003.out).2.1); rintro e w248 ⟨rfl, hb⟩; refine ⟨_, rfl, ?_⟩; have n0_ := aM (kB (kr HO_241003.out) hb); have n1_ := aM (kB (kr HO_246001.out) hb); have n2_ := aM (kB (kr HO_253003.out) hb); have n3_ := aM (kB (kr HO_261003.out) hb); have n4_ := aM (kB (kr HO_300003.out) hb); have n5_ := aM (bB (g := gb219) (o := .cells #[.int .i64 a0_0, .slice A0_1 l0_1.length c0_1] 44 (0, 0)) (bk BK219.out) hb); have n6_ := aM (bB (g := gb220) (o := .cells #[.int .i64 a1_0, .int .i64 a1_1, .int .i64 a1_2, .slice A1_3 l1_3.length c1_3] 45 (0, 0)) (bk BK220.out) hb); have n7_ := aM (bB (g := gb240) (o := .cells #[.int .i64 t233, .int .i64 t234, .int .i64 t235, .slice Ao44 t236.length co44] 28 (0, 0)) (bk BK240.out) hb); have n8_ := aM (bB (g := gb245) (o := .cells #[.int .i64 t241, .slice Ao54 t275.length co54] 26 (0, 0)) (bk BK245.out) hb); have n9_ := aM (bB (g := gb252) (o := .cells #[.int .i64 t246, .int .i64 t247, .int .i64 t248, .slice Ao64 t277.length co64] 28 (0, 0)) (bk BK252.out) hb); have n10_ := aM (bB (g := gb260) (o := .cells #[.int .i64 t253, .int .i64 t254, .int .i64 t255, .slice Ao74 t280.length co74] 28 (0, 0)) (bk BK260.out) hb); have n11_ := aM (bB (g := gb299) (o := .cells #[.int .i64 t292, .int .i64 t293, .int .i64 t294, .slice Ao197 t295.length co197] 28 (0, 0)) (bk BK299.out) hb); have n12_ := aM (bS (bl HB.out) hb); clear HO_241003 HO_246001; clear HO_253003 HO_261003; clear HO_300003 BK219; clear BK220 BK240; clear BK245 BK252; clear BK260 BK299 HB; have HO_241003 := n0_; have HO_246001 := n1_; have HO_253003 := n2_; have HO_261003 := n3_; have HO_300003 := n4_; have BK219 := n5_; have BK220 := n6_; have BK240 := n7_; have BK245 := n8_; have BK252 := n9_; have BK260 := n10_; have BK299 := n11_; have HB := n12_; clear n0_ n1_ n2_ n3_ n4_ n5_ n6_ n7_ n8_ n9_ n10_ n11_ n12_; (try clear hb); (try clear hb2); (try clear hk); (try clear hi)))
       go_ret
       exact ⟨by first | rfl | (simp [errW_none, errW_some] <;> rfl) | (simp [*, errW_none, errW_some] <;> rfl), by repeat (first | (with_reducible first | exact HB.out | apply below_alloc | apply pw_below_drewN | apply below_drew1 | refine below_set ?_ GE219.out | refine below_set ?_ GE220.out | refine below_set ?_ GE240.out | refine below_set ?_ GE245.out | refine below_set ?_ GE252.out | refine below_set ?_ GE260.out | refine below_set ?_ GE299.out) | exact HB.out)⟩

end Go.Proofs.Ytjmkbmpfknhcdaa.PFnExactOutside
