/- Of the proof of laws.FnExactInside: a part. No condition beyond what its theorems say. -/
/- The machine side of laws.FnExactInside: where the plain function of that name answers true, its call returns true. No condition beyond what its arguments read as. -/
import Derived.Test.YtjmkbmpfknhcdaaVFnExactInsidePx0
import Derived.Test.YtjmkbmpfknhcdaaVFnExactInsidePx1
import Derived.Test.YtjmkbmpfknhcdaaVFnExactInsidePx2
import Derived.Test.YtjmkbmpfknhcdaaVFnExactInsidePx3
import Derived.Test.YtjmkbmpfknhcdaaVFnExactInsidePx4
import Derived.Test.YtjmkbmpfknhcdaaVFnExactInsideTH
namespace Go.Proofs.Ytjmkbmpfknhcdaa.PFnExactInside
open Go.RowKit Go.Proofs.YtjmkbmpfknhcdaaW.PrintWords Go.Proofs.YtjmkbmpfknhcdaaW.PrintLast Go.Proofs.YtjmkbmpfknhcdaaW.PrintMore
attribute [local go_sem] max2_int min2_int max_two min_two max_three min_three max_four min_four   -- for this text's walks alone
set_option linter.unusedVariables false
set_option linter.unusedSimpArgs false
set_option maxHeartbeats 60000000 in
set_option maxRecDepth 100000 in
theorem laws_FnExactInside.calls (k : Nat) (a0_0 : Int) (A0_1 : Option Addr) (c0_1 : Nat) (l0_1 : List Int) (a1_0 : Int) (a1_1 : Int) (a1_2 : Int) (A1_3 : Option Addr) (c1_3 : Nat) (l1_3 : List Int) (w : World) (hr0_1 : Kd.C (Kd.int .i64) w A0_1 l0_1.length l0_1) (hc0_1 : l0_1.length ≤ c0_1) (hr1_3 : Kd.C (Kd.int .u8) w A1_3 l1_3.length l1_3) (hc1_3 : l1_3.length ≤ c1_3) (h : laws_FnExactInside.f k a0_0 l0_1 a1_0 a1_1 a1_2 l1_3 = some true) :
  Calls Try.prog 7 #[.agg #[.int .i64 a0_0, .slice A0_1 l0_1.length c0_1], .agg #[.int .i64 a1_0, .int .i64 a1_1, .int .i64 a1_2, .slice A1_3 l1_3.length c1_3]] w fun e w' => e = .returned (.bool true) ∧ Below w.heap.size w w' := by
 have hu44 := Try.underlying44
 have hu45 := Try.underlying45
 have hu28 := Try.underlying28
 have hu26 := Try.underlying26
 have HR0_1 := aM hr0_1
 have HC0_1 := aM hc0_1
 clear hr0_1 hc0_1
 have HR1_3 := aM hr1_3
 have HC1_3 := aM hc1_3
 clear hr1_3 hc1_3
 have HB := aM (Below.refl w.heap.size w)
 have H : ((laws_szMember.f a0_0 l0_1 1048576).bind fun t222 => (if t222 < 0 then (some true) else ((laws_szFrame.f a1_0 a1_1 a1_2 l1_3 t222).bind fun t223 => (if t223 < 0 then (some true) else ((laws_toMember.f k a0_0 l0_1).bind fun bt224 => ((laws_toFrame.f k a1_0 a1_1 a1_2 l1_3).bind fun bt228 => ((spec_Inside.f k bt224.1 bt224.2 bt228.1 bt228.2.1 bt228.2.2.1 bt228.2.2.2).bind fun bt234 => ((laws_toMember.f k a0_0 l0_1).bind fun bt242 => ((laws_toFrame.f k a1_0 a1_1 a1_2 l1_3).bind fun bt247 => ((impl_Inside.f k bt242.1 bt242.2 bt247.1 bt247.2.1 bt247.2.2.1 bt247.2.2.2).bind fun bt254 => ((laws_eqFrame.f k bt254.1 bt254.2.1 bt254.2.2.1 bt254.2.2.2.1 bt234.1 bt234.2.1 bt234.2.2.1 bt234.2.2.2.1).bind fun t262 => (if t262 = true then (laws_FnExactInside.j0 k bt234.2.2.2.2 bt254.2.2.2.2 (bt254.2.2.2.2 != bt234.2.2.2.2) a0_0 l0_1 a1_0 a1_1 a1_2 l1_3 bt234.1 bt234.2.1 bt234.2.2.1 bt234.2.2.2.1 bt242.1 bt242.2 bt247.1 bt247.2.1 bt247.2.2.1 bt247.2.2.2 bt254.1 bt254.2.1 bt254.2.2.1 bt254.2.2.2.1) else (laws_FnExactInside.j0 k bt234.2.2.2.2 bt254.2.2.2.2 true a0_0 l0_1 a1_0 a1_1 a1_2 l1_3 bt234.1 bt234.2.1 bt234.2.2.1 bt234.2.2.2.1 bt242.1 bt242.2 bt247.1 bt247.2.1 bt247.2.2.1 bt247.2.2.2 bt254.1 bt254.2.1 bt254.2.2.1 bt254.2.2.2.1))))))))))))) = some true := h
 clear h
 replace H := Option.bind_eq_some_iff.mp H
 obtain ⟨t222, A30, H⟩ := H
 replace H : (if t222 < 0 then (some true) else ((laws_szFrame.f a1_0 a1_1 a1_2 l1_3 t222).bind fun t223 => (if t223 < 0 then (some true) else ((laws_toMember.f k a0_0 l0_1).bind fun bt224 => ((laws_toFrame.f k a1_0 a1_1 a1_2 l1_3).bind fun bt228 => ((spec_Inside.f k bt224.1 bt224.2 bt228.1 bt228.2.1 bt228.2.2.1 bt228.2.2.2).bind fun bt234 => ((laws_toMember.f k a0_0 l0_1).bind fun bt242 => ((laws_toFrame.f k a1_0 a1_1 a1_2 l1_3).bind fun bt247 => ((impl_Inside.f k bt242.1 bt242.2 bt247.1 bt247.2.1 bt247.2.2.1 bt247.2.2.2).bind fun bt254 => ((laws_eqFrame.f k bt254.1 bt254.2.1 bt254.2.2.1 bt254.2.2.2.1 bt234.1 bt234.2.1 bt234.2.2.1 bt234.2.2.2.1).bind fun t262 => (if t262 = true then (laws_FnExactInside.j0 k bt234.2.2.2.2 bt254.2.2.2.2 (bt254.2.2.2.2 != bt234.2.2.2.2) a0_0 l0_1 a1_0 a1_1 a1_2 l1_3 bt234.1 bt234.2.1 bt234.2.2.1 bt234.2.2.2.1 bt242.1 bt242.2 bt247.1 bt247.2.1 bt247.2.2.1 bt247.2.2.2 bt254.1 bt254.2.1 bt254.2.2.1 bt254.2.2.2.1) else (laws_FnExactInside.j0 k bt234.2.2.2.2 bt254.2.2.2.2 true a0_0 l0_1 a1_0 a1_1 a1_2 l1_3 bt234.1 bt234.2.1 bt234.2.2.1 bt234.2.2.2.1 bt242.1 bt242.2 bt247.1 bt247.2.1 bt247.2.2.1 bt247.2.2.2 bt254.1 bt254.2.1 bt254.2.2.1 bt254.2.2.2.1)))))))))))) = some true := H
 have A3 := aM A30
 clear A30
 by_cases c4 : t222 < 0
 case pos =>
  rw [if_pos c4] at H
  have c4b0 : decide (t222 < 0) = true := decide_eq_true c4
  clear c4
  clear H
  go_enter Try.func7, Try.ntmps7
  go_wp2_with (first | ((with_reducible refine gate_dst (N := 2) rfl ?_); refine box_event ?hg (N := 2) ?hd (cs := #[.int .i64 a0_0, .slice A0_1 l0_1.length c0_1]) (t := 44) ?hr ?_; (case hd => rfl); (case hg => rfl); (case hr => first | (go_simp; done) | (go_simp; rfl)); intro gb220 hg w5 hbox hb; have n0_ := aM (bS (bl HB.out) hb); have n1_ := aM (hbox); have n2_ := aM ((by rw [hg]; exact (below_size (bl HB.out)) : w.heap.size ≤ gb220)); have n3_ := aM ((by rw [hg]; exact (below_size (bl HB.out)) : w.heap.size ≤ gb220)); clear HB; have HB := n0_; have BK220 := n1_; have GW220 := n2_; have GE220 := n3_; clear n0_ n1_ n2_ n3_; clear hb hbox hg) | ((with_reducible refine gate_dst (N := 3) rfl ?_); refine box_event ?hg (N := 3) ?hd (cs := #[.int .i64 a1_0, .int .i64 a1_1, .int .i64 a1_2, .slice A1_3 l1_3.length c1_3]) (t := 45) ?hr ?_; (case hd => rfl); (case hg => rfl); (case hr => first | (go_simp; done) | (go_simp; rfl)); intro gb221 hg w6 hbox hb; have n0_ := aM (bB (g := gb220) (o := .cells #[.int .i64 a0_0, .slice A0_1 l0_1.length c0_1] 44 (0, 0)) (bk BK220.out) hb); have n1_ := aM (bS (bl HB.out) hb); have n2_ := aM (hbox); have n3_ := aM ((by rw [hg]; exact (below_size (bl HB.out)) : w.heap.size ≤ gb221)); have n4_ := aM ((by rw [hg]; exact (below_size (bl HB.out)) : w.heap.size ≤ gb221)); have n5_ := aM ((by rw [hg]; exact Nat.ne_of_lt (blk_lt (g := gb220) (o := .cells #[.int .i64 a0_0, .slice A0_1 l0_1.length c0_1] 44 (0, 0)) (bk BK220.out)) : gb220 ≠ gb221)); have n6_ := aM ((by rw [hg]; exact Nat.ne_of_gt (blk_lt (g := gb220) (o := .cells #[.int .i64 a0_0, .slice A0_1 l0_1.length c0_1] 44 (0, 0)) (bk BK220.out)) : gb221 ≠ gb220)); clear BK220 HB; have BK220 := n0_; have HB := n1_; have BK221 := n2_; have GW221 := n3_; have GE221 := n4_; have NB220_221 := n5_; have NB221_220 := n6_; clear n0_ n1_ n2_ n3_ n4_ n5_ n6_; clear hb hbox hg; have hnb7 := NB220_221.out; have hnc7 := NB221_220.out; have hcz8_0 := cI BK220.out 0; have hcz8_1 := cI BK220.out 1; have hfz8_0 := bF BK220.out 0; have hfz8_1 := bF BK220.out 1) | ((with_reducible refine gate_callee (f := 30) rfl ?_); refine goesL_ (some 19) rfl rfl Try.func30 (by kernel_rfl) rfl #[.agg #[.int .i64 a0_0, .slice A0_1 l0_1.length c0_1], .int .i64 1048576] rfl xR ?_; (with_reducible refine (laws_szMember.calls a0_0 _ _ l0_1 1048576 t222 _ ?side1 ?side2 A3.out).mono ?_); (case side1 => repeat (first | exact (cB HR0_1.out HB.out) | (with_reducible refine Kd.C_alloc ?_ _) | (with_reducible refine Kd.C_drewN ?_ _) | (with_reducible refine Kd.C_drew ?_))); (case side2 => exact HC0_1.out); rintro e w9 ⟨rfl, hb⟩; refine ⟨_, rfl, ?_⟩; have n0_ := aM (bB (g := gb220) (o := .cells #[.int .i64 a0_0, .slice A0_1 l0_1.length c0_1] 44 (0, 0)) (bk BK220.out) hb); have n1_ := aM (bB (g := gb221) (o := .cells #[.int .i64 a1_0, .int .i64 a1_1, .int .i64 a1_2, .slice A1_3 l1_3.length c1_3] 45 (0, 0)) (bk BK221.out) hb); have n2_ := aM (bS (bl HB.out) hb); clear BK220 BK221 HB; have BK220 := n0_; have BK221 := n1_; have HB := n2_; clear n0_ n1_ n2_; (try clear hb)))
  go_ret
  exact ⟨xW, bl HB.out⟩
 rw [if_neg c4] at H
 have c4b0 : decide (t222 < 0) = false := decide_eq_false c4
 clear c4
 replace H := Option.bind_eq_some_iff.mp H
 obtain ⟨t223, A100, H⟩ := H
 replace H : (if t223 < 0 then (some true) else ((laws_toMember.f k a0_0 l0_1).bind fun bt224 => ((laws_toFrame.f k a1_0 a1_1 a1_2 l1_3).bind fun bt228 => ((spec_Inside.f k bt224.1 bt224.2 bt228.1 bt228.2.1 bt228.2.2.1 bt228.2.2.2).bind fun bt234 => ((laws_toMember.f k a0_0 l0_1).bind fun bt242 => ((laws_toFrame.f k a1_0 a1_1 a1_2 l1_3).bind fun bt247 => ((impl_Inside.f k bt242.1 bt242.2 bt247.1 bt247.2.1 bt247.2.2.1 bt247.2.2.2).bind fun bt254 => ((laws_eqFrame.f k bt254.1 bt254.2.1 bt254.2.2.1 bt254.2.2.2.1 bt234.1 bt234.2.1 bt234.2.2.1 bt234.2.2.2.1).bind fun t262 => (if t262 = true then (laws_FnExactInside.j0 k bt234.2.2.2.2 bt254.2.2.2.2 (bt254.2.2.2.2 != bt234.2.2.2.2) a0_0 l0_1 a1_0 a1_1 a1_2 l1_3 bt234.1 bt234.2.1 bt234.2.2.1 bt234.2.2.2.1 bt242.1 bt242.2 bt247.1 bt247.2.1 bt247.2.2.1 bt247.2.2.2 bt254.1 bt254.2.1 bt254.2.2.1 bt254.2.2.2.1) else (laws_FnExactInside.j0 k bt234.2.2.2.2 bt254.2.2.2.2 true a0_0 l0_1 a1_0 a1_1 a1_2 l1_3 bt234.1 bt234.2.1 bt234.2.2.1 bt234.2.2.2.1 bt242.1 bt242.2 bt247.1 bt247.2.1 bt247.2.2.1 bt247.2.2.2 bt254.1 bt254.2.1 bt254.2.2.1 bt254.2.2.2.1)))))))))) = some true := H
 have A10 := aM A100
 clear A100
 by_cases c11 : t223 < 0
 case pos =>
  rw [if_pos c11] at H
  have c11b0 : decide (t223 < 0) = true := decide_eq_true c11
  clear c11
  clear H
  go_enter Try.func7, Try.ntmps7
  go_wp2_with (first | ((with_reducible refine gate_dst (N := 2) rfl ?_); refine box_event ?hg (N := 2) ?hd (cs := #[.int .i64 a0_0, .slice A0_1 l0_1.length c0_1]) (t := 44) ?hr ?_; (case hd => rfl); (case hg => rfl); (case hr => first | (go_simp; done) | (go_simp; rfl)); intro gb220 hg w12 hbox hb; have n0_ := aM (bS (bl HB.out) hb); have n1_ := aM (hbox); have n2_ := aM ((by rw [hg]; exact (below_size (bl HB.out)) : w.heap.size ≤ gb220)); have n3_ := aM ((by rw [hg]; exact (below_size (bl HB.out)) : w.heap.size ≤ gb220)); clear HB; have HB := n0_; have BK220 := n1_; have GW220 := n2_; have GE220 := n3_; clear n0_ n1_ n2_ n3_; clear hb hbox hg) | ((with_reducible refine gate_dst (N := 3) rfl ?_); refine box_event ?hg (N := 3) ?hd (cs := #[.int .i64 a1_0, .int .i64 a1_1, .int .i64 a1_2, .slice A1_3 l1_3.length c1_3]) (t := 45) ?hr ?_; (case hd => rfl); (case hg => rfl); (case hr => first | (go_simp; done) | (go_simp; rfl)); intro gb221 hg w13 hbox hb; have n0_ := aM (bB (g := gb220) (o := .cells #[.int .i64 a0_0, .slice A0_1 l0_1.length c0_1] 44 (0, 0)) (bk BK220.out) hb); have n1_ := aM (bS (bl HB.out) hb); have n2_ := aM (hbox); have n3_ := aM ((by rw [hg]; exact (below_size (bl HB.out)) : w.heap.size ≤ gb221)); have n4_ := aM ((by rw [hg]; exact (below_size (bl HB.out)) : w.heap.size ≤ gb221)); have n5_ := aM ((by rw [hg]; exact Nat.ne_of_lt (blk_lt (g := gb220) (o := .cells #[.int .i64 a0_0, .slice A0_1 l0_1.length c0_1] 44 (0, 0)) (bk BK220.out)) : gb220 ≠ gb221)); have n6_ := aM ((by rw [hg]; exact Nat.ne_of_gt (blk_lt (g := gb220) (o := .cells #[.int .i64 a0_0, .slice A0_1 l0_1.length c0_1] 44 (0, 0)) (bk BK220.out)) : gb221 ≠ gb220)); clear BK220 HB; have BK220 := n0_; have HB := n1_; have BK221 := n2_; have GW221 := n3_; have GE221 := n4_; have NB220_221 := n5_; have NB221_220 := n6_; clear n0_ n1_ n2_ n3_ n4_ n5_ n6_; clear hb hbox hg; have hnb14 := NB220_221.out; have hnc14 := NB221_220.out; have hcz15_0 := cI BK220.out 0; have hcz15_1 := cI BK220.out 1; have hfz15_0 := bF BK220.out 0; have hfz15_1 := bF BK220.out 1) | ((with_reducible refine gate_callee (f := 30) rfl ?_); refine goesL_ (some 19) rfl rfl Try.func30 (by kernel_rfl) rfl #[.agg #[.int .i64 a0_0, .slice A0_1 l0_1.length c0_1], .int .i64 1048576] rfl xR ?_; (with_reducible refine (laws_szMember.calls a0_0 _ _ l0_1 1048576 t222 _ ?side1 ?side2 A3.out).mono ?_); (case side1 => repeat (first | exact (cB HR0_1.out HB.out) | (with_reducible refine Kd.C_alloc ?_ _) | (with_reducible refine Kd.C_drewN ?_ _) | (with_reducible refine Kd.C_drew ?_))); (case side2 => exact HC0_1.out); rintro e w16 ⟨rfl, hb⟩; refine ⟨_, rfl, ?_⟩; have n0_ := aM (bB (g := gb220) (o := .cells #[.int .i64 a0_0, .slice A0_1 l0_1.length c0_1] 44 (0, 0)) (bk BK220.out) hb); have n1_ := aM (bB (g := gb221) (o := .cells #[.int .i64 a1_0, .int .i64 a1_1, .int .i64 a1_2, .slice A1_3 l1_3.length c1_3] 45 (0, 0)) (bk BK221.out) hb); have n2_ := aM (bS (bl HB.out) hb); clear BK220 BK221 HB; have BK220 := n0_; have BK221 := n1_; have HB := n2_; clear n0_ n1_ n2_; (try clear hb); have hcz17_0 := cI BK221.out 0; have hcz17_1 := cI BK221.out 1; have hcz17_2 := cI BK221.out 2; have hcz17_3 := cI BK221.out 3; have hfz17_0 := bF BK221.out 0; have hfz17_1 := bF BK221.out 1; have hfz17_2 := bF BK221.out 2; have hfz17_3 := bF BK221.out 3) | ((with_reducible refine gate_callee (f := 31) rfl ?_); refine goesL_ (some 24) rfl rfl Try.func31 (by kernel_rfl) rfl #[.agg #[.int .i64 a1_0, .int .i64 a1_1, .int .i64 a1_2, .slice A1_3 l1_3.length c1_3], .int .i64 t222] rfl xR ?_; (with_reducible refine (laws_szFrame.calls a1_0 a1_1 a1_2 _ _ l1_3 t222 t223 _ ?side1 ?side2 A10.out).mono ?_); (case side1 => repeat (first | exact (cB HR1_3.out HB.out) | (with_reducible refine Kd.C_alloc ?_ _) | (with_reducible refine Kd.C_drewN ?_ _) | (with_reducible refine Kd.C_drew ?_))); (case side2 => exact HC1_3.out); rintro e w18 ⟨rfl, hb⟩; refine ⟨_, rfl, ?_⟩; have n0_ := aM (bB (g := gb220) (o := .cells #[.int .i64 a0_0, .slice A0_1 l0_1.length c0_1] 44 (0, 0)) (bk BK220.out) hb); have n1_ := aM (bB (g := gb221) (o := .cells #[.int .i64 a1_0, .int .i64 a1_1, .int .i64 a1_2, .slice A1_3 l1_3.length c1_3] 45 (0, 0)) (bk BK221.out) hb); have n2_ := aM (bS (bl HB.out) hb); clear BK220 BK221 HB; have BK220 := n0_; have BK221 := n1_; have HB := n2_; clear n0_ n1_ n2_; (try clear hb)))
  go_ret
  exact ⟨xW, bl HB.out⟩
 rw [if_neg c11] at H
 have c11b0 : decide (t223 < 0) = false := decide_eq_false c11
 clear c11
 replace H := Option.bind_eq_some_iff.mp H
 obtain ⟨⟨t224, t225⟩, A190, H⟩ := H
 replace H : ((laws_toFrame.f k a1_0 a1_1 a1_2 l1_3).bind fun bt228 => ((spec_Inside.f k t224 t225 bt228.1 bt228.2.1 bt228.2.2.1 bt228.2.2.2).bind fun bt234 => ((laws_toMember.f k a0_0 l0_1).bind fun bt242 => ((laws_toFrame.f k a1_0 a1_1 a1_2 l1_3).bind fun bt247 => ((impl_Inside.f k bt242.1 bt242.2 bt247.1 bt247.2.1 bt247.2.2.1 bt247.2.2.2).bind fun bt254 => ((laws_eqFrame.f k bt254.1 bt254.2.1 bt254.2.2.1 bt254.2.2.2.1 bt234.1 bt234.2.1 bt234.2.2.1 bt234.2.2.2.1).bind fun t262 => (if t262 = true then (laws_FnExactInside.j0 k bt234.2.2.2.2 bt254.2.2.2.2 (bt254.2.2.2.2 != bt234.2.2.2.2) a0_0 l0_1 a1_0 a1_1 a1_2 l1_3 bt234.1 bt234.2.1 bt234.2.2.1 bt234.2.2.2.1 bt242.1 bt242.2 bt247.1 bt247.2.1 bt247.2.2.1 bt247.2.2.2 bt254.1 bt254.2.1 bt254.2.2.1 bt254.2.2.2.1) else (laws_FnExactInside.j0 k bt234.2.2.2.2 bt254.2.2.2.2 true a0_0 l0_1 a1_0 a1_1 a1_2 l1_3 bt234.1 bt234.2.1 bt234.2.2.1 bt234.2.2.2.1 bt242.1 bt242.2 bt247.1 bt247.2.1 bt247.2.2.1 bt247.2.2.2 bt254.1 bt254.2.1 bt254.2.2.1 bt254.2.2.2.1)))))))) = some true := H
 have A19 := aM A190
 clear A190
 replace H := Option.bind_eq_some_iff.mp H
 obtain ⟨⟨t228, t229, t230, t231⟩, A200, H⟩ := H
 replace H : ((spec_Inside.f k t224 t225 t228 t229 t230 t231).bind fun bt234 => ((laws_toMember.f k a0_0 l0_1).bind fun bt242 => ((laws_toFrame.f k a1_0 a1_1 a1_2 l1_3).bind fun bt247 => ((impl_Inside.f k bt242.1 bt242.2 bt247.1 bt247.2.1 bt247.2.2.1 bt247.2.2.2).bind fun bt254 => ((laws_eqFrame.f k bt254.1 bt254.2.1 bt254.2.2.1 bt254.2.2.2.1 bt234.1 bt234.2.1 bt234.2.2.1 bt234.2.2.2.1).bind fun t262 => (if t262 = true then (laws_FnExactInside.j0 k bt234.2.2.2.2 bt254.2.2.2.2 (bt254.2.2.2.2 != bt234.2.2.2.2) a0_0 l0_1 a1_0 a1_1 a1_2 l1_3 bt234.1 bt234.2.1 bt234.2.2.1 bt234.2.2.2.1 bt242.1 bt242.2 bt247.1 bt247.2.1 bt247.2.2.1 bt247.2.2.2 bt254.1 bt254.2.1 bt254.2.2.1 bt254.2.2.2.1) else (laws_FnExactInside.j0 k bt234.2.2.2.2 bt254.2.2.2.2 true a0_0 l0_1 a1_0 a1_1 a1_2 l1_3 bt234.1 bt234.2.1 bt234.2.2.1 bt234.2.2.2.1 bt242.1 bt242.2 bt247.1 bt247.2.1 bt247.2.2.1 bt247.2.2.2 bt254.1 bt254.2.1 bt254.2.2.1 bt254.2.2.2.1))))))) = some true := H
 have A20 := aM A200
 clear A200
 replace H := Option.bind_eq_some_iff.mp H
 obtain ⟨⟨t234, t235, t236, t237, t240⟩, A210, H⟩ := H
 replace H : ((laws_toMember.f k a0_0 l0_1).bind fun bt242 => ((laws_toFrame.f k a1_0 a1_1 a1_2 l1_3).bind fun bt247 => ((impl_Inside.f k bt242.1 bt242.2 bt247.1 bt247.2.1 bt247.2.2.1 bt247.2.2.2).bind fun bt254 => ((laws_eqFrame.f k bt254.1 bt254.2.1 bt254.2.2.1 bt254.2.2.2.1 t234 t235 t236 t237).bind fun t262 => (if t262 = true then (laws_FnExactInside.j0 k t240 bt254.2.2.2.2 (bt254.2.2.2.2 != t240) a0_0 l0_1 a1_0 a1_1 a1_2 l1_3 t234 t235 t236 t237 bt242.1 bt242.2 bt247.1 bt247.2.1 bt247.2.2.1 bt247.2.2.2 bt254.1 bt254.2.1 bt254.2.2.1 bt254.2.2.2.1) else (laws_FnExactInside.j0 k t240 bt254.2.2.2.2 true a0_0 l0_1 a1_0 a1_1 a1_2 l1_3 t234 t235 t236 t237 bt242.1 bt242.2 bt247.1 bt247.2.1 bt247.2.2.1 bt247.2.2.2 bt254.1 bt254.2.1 bt254.2.2.1 bt254.2.2.2.1)))))) = some true := H
 have A21 := aM A210
 clear A210
 replace H := Option.bind_eq_some_iff.mp H
 obtain ⟨⟨t242, t243⟩, A220, H⟩ := H
 replace H : ((laws_toFrame.f k a1_0 a1_1 a1_2 l1_3).bind fun bt247 => ((impl_Inside.f k t242 t243 bt247.1 bt247.2.1 bt247.2.2.1 bt247.2.2.2).bind fun bt254 => ((laws_eqFrame.f k bt254.1 bt254.2.1 bt254.2.2.1 bt254.2.2.2.1 t234 t235 t236 t237).bind fun t262 => (if t262 = true then (laws_FnExactInside.j0 k t240 bt254.2.2.2.2 (bt254.2.2.2.2 != t240) a0_0 l0_1 a1_0 a1_1 a1_2 l1_3 t234 t235 t236 t237 t242 t243 bt247.1 bt247.2.1 bt247.2.2.1 bt247.2.2.2 bt254.1 bt254.2.1 bt254.2.2.1 bt254.2.2.2.1) else (laws_FnExactInside.j0 k t240 bt254.2.2.2.2 true a0_0 l0_1 a1_0 a1_1 a1_2 l1_3 t234 t235 t236 t237 t242 t243 bt247.1 bt247.2.1 bt247.2.2.1 bt247.2.2.2 bt254.1 bt254.2.1 bt254.2.2.1 bt254.2.2.2.1))))) = some true := H
 have A22 := aM A220
 clear A220
 replace H := Option.bind_eq_some_iff.mp H
 obtain ⟨⟨t247, t248, t249, t250⟩, A230, H⟩ := H
 replace H : ((impl_Inside.f k t242 t243 t247 t248 t249 t250).bind fun bt254 => ((laws_eqFrame.f k bt254.1 bt254.2.1 bt254.2.2.1 bt254.2.2.2.1 t234 t235 t236 t237).bind fun t262 => (if t262 = true then (laws_FnExactInside.j0 k t240 bt254.2.2.2.2 (bt254.2.2.2.2 != t240) a0_0 l0_1 a1_0 a1_1 a1_2 l1_3 t234 t235 t236 t237 t242 t243 t247 t248 t249 t250 bt254.1 bt254.2.1 bt254.2.2.1 bt254.2.2.2.1) else (laws_FnExactInside.j0 k t240 bt254.2.2.2.2 true a0_0 l0_1 a1_0 a1_1 a1_2 l1_3 t234 t235 t236 t237 t242 t243 t247 t248 t249 t250 bt254.1 bt254.2.1 bt254.2.2.1 bt254.2.2.2.1)))) = some true := H
 have A23 := aM A230
 clear A230
 replace H := Option.bind_eq_some_iff.mp H
 obtain ⟨⟨t254, t255, t256, t257, t260⟩, A240, H⟩ := H
 replace H : ((laws_eqFrame.f k t254 t255 t256 t257 t234 t235 t236 t237).bind fun t262 => (if t262 = true then (laws_FnExactInside.j0 k t240 t260 (t260 != t240) a0_0 l0_1 a1_0 a1_1 a1_2 l1_3 t234 t235 t236 t237 t242 t243 t247 t248 t249 t250 t254 t255 t256 t257) else (laws_FnExactInside.j0 k t240 t260 true a0_0 l0_1 a1_0 a1_1 a1_2 l1_3 t234 t235 t236 t237 t242 t243 t247 t248 t249 t250 t254 t255 t256 t257))) = some true := H
 have A24 := aM A240
 clear A240
 have HC25 := aM H
 clear H
 go_enter Try.func7, Try.ntmps7
 try go_wp2_with (first | ((with_reducible refine gate_dst (N := 2) rfl ?_); refine box_event ?hg (N := 2) ?hd (cs := #[.int .i64 a0_0, .slice A0_1 l0_1.length c0_1]) (t := 44) ?hr ?_; (case hd => rfl); (case hg => rfl); (case hr => first | (go_simp; done) | (go_simp; rfl)); intro gb220 hg w26 hbox hb; have n0_ := aM (bS (bl HB.out) hb); have n1_ := aM (hbox); have n2_ := aM ((by rw [hg]; exact (below_size (bl HB.out)) : w.heap.size ≤ gb220)); have n3_ := aM ((by rw [hg]; exact (below_size (bl HB.out)) : w.heap.size ≤ gb220)); clear HB; have HB := n0_; have BK220 := n1_; have GW220 := n2_; have GE220 := n3_; clear n0_ n1_ n2_ n3_; clear hb hbox hg) | ((with_reducible refine gate_dst (N := 3) rfl ?_); refine box_event ?hg (N := 3) ?hd (cs := #[.int .i64 a1_0, .int .i64 a1_1, .int .i64 a1_2, .slice A1_3 l1_3.length c1_3]) (t := 45) ?hr ?_; (case hd => rfl); (case hg => rfl); (case hr => first | (go_simp; done) | (go_simp; rfl)); intro gb221 hg w27 hbox hb; have n0_ := aM (bB (g := gb220) (o := .cells #[.int .i64 a0_0, .slice A0_1 l0_1.length c0_1] 44 (0, 0)) (bk BK220.out) hb); have n1_ := aM (bS (bl HB.out) hb); have n2_ := aM (hbox); have n3_ := aM ((by rw [hg]; exact (below_size (bl HB.out)) : w.heap.size ≤ gb221)); have n4_ := aM ((by rw [hg]; exact (below_size (bl HB.out)) : w.heap.size ≤ gb221)); have n5_ := aM ((by rw [hg]; exact Nat.ne_of_lt (blk_lt (g := gb220) (o := .cells #[.int .i64 a0_0, .slice A0_1 l0_1.length c0_1] 44 (0, 0)) (bk BK220.out)) : gb220 ≠ gb221)); have n6_ := aM ((by rw [hg]; exact Nat.ne_of_gt (blk_lt (g := gb220) (o := .cells #[.int .i64 a0_0, .slice A0_1 l0_1.length c0_1] 44 (0, 0)) (bk BK220.out)) : gb221 ≠ gb220)); clear BK220 HB; have BK220 := n0_; have HB := n1_; have BK221 := n2_; have GW221 := n3_; have GE221 := n4_; have NB220_221 := n5_; have NB221_220 := n6_; clear n0_ n1_ n2_ n3_ n4_ n5_ n6_; clear hb hbox hg; have hnb28 := NB220_221.out; have hnc28 := NB221_220.out; have hcz29_0 := cI BK220.out 0; have hcz29_1 := cI BK220.out 1; have hfz29_0 := bF BK220.out 0; have hfz29_1 := bF BK220.out 1) | ((with_reducible refine gate_callee (f := 30) rfl ?_); refine goesL_ (some 19) rfl rfl Try.func30 (by kernel_rfl) rfl #[.agg #[.int .i64 a0_0, .slice A0_1 l0_1.length c0_1], .int .i64 1048576] rfl xR ?_; (with_reducible refine (laws_szMember.calls a0_0 _ _ l0_1 1048576 t222 _ ?side1 ?side2 A3.out).mono ?_); (case side1 => repeat (first | exact (cB HR0_1.out HB.out) | (with_reducible refine Kd.C_alloc ?_ _) | (with_reducible refine Kd.C_drewN ?_ _) | (with_reducible refine Kd.C_drew ?_))); (case side2 => exact HC0_1.out); rintro e w30 ⟨rfl, hb⟩; refine ⟨_, rfl, ?_⟩; have n0_ := aM (bB (g := gb220) (o := .cells #[.int .i64 a0_0, .slice A0_1 l0_1.length c0_1] 44 (0, 0)) (bk BK220.out) hb); have n1_ := aM (bB (g := gb221) (o := .cells #[.int .i64 a1_0, .int .i64 a1_1, .int .i64 a1_2, .slice A1_3 l1_3.length c1_3] 45 (0, 0)) (bk BK221.out) hb); have n2_ := aM (bS (bl HB.out) hb); clear BK220 BK221 HB; have BK220 := n0_; have BK221 := n1_; have HB := n2_; clear n0_ n1_ n2_; (try clear hb); have hcz31_0 := cI BK221.out 0; have hcz31_1 := cI BK221.out 1; have hcz31_2 := cI BK221.out 2; have hcz31_3 := cI BK221.out 3; have hfz31_0 := bF BK221.out 0; have hfz31_1 := bF BK221.out 1; have hfz31_2 := bF BK221.out 2; have hfz31_3 := bF BK221.out 3) | ((with_reducible refine gate_callee (f := 31) rfl ?_); refine goesL_ (some 24) rfl rfl Try.func31 (by kernel_rfl) rfl #[.agg #[.int .i64 a1_0, .int .i64 a1_1, .int .i64 a1_2, .slice A1_3 l1_3.length c1_3], .int .i64 t222] rfl xR ?_; (with_reducible refine (laws_szFrame.calls a1_0 a1_1 a1_2 _ _ l1_3 t222 t223 _ ?side1 ?side2 A10.out).mono ?_); (case side1 => repeat (first | exact (cB HR1_3.out HB.out) | (with_reducible refine Kd.C_alloc ?_ _) | (with_reducible refine Kd.C_drewN ?_ _) | (with_reducible refine Kd.C_drew ?_))); (case side2 => exact HC1_3.out); rintro e w32 ⟨rfl, hb⟩; refine ⟨_, rfl, ?_⟩; have n0_ := aM (bB (g := gb220) (o := .cells #[.int .i64 a0_0, .slice A0_1 l0_1.length c0_1] 44 (0, 0)) (bk BK220.out) hb); have n1_ := aM (bB (g := gb221) (o := .cells #[.int .i64 a1_0, .int .i64 a1_1, .int .i64 a1_2, .slice A1_3 l1_3.length c1_3] 45 (0, 0)) (bk BK221.out) hb); have n2_ := aM (bS (bl HB.out) hb); clear BK220 BK221 HB; have BK220 := n0_; have BK221 := n1_; have HB := n2_; clear n0_ n1_ n2_; (try clear hb)))
 have n0_ := aM (blk_drew BK220.out)
 have n1_ := aM (blk_drew BK221.out)
 have n2_ := aM (below_drew1 HB.out)
 clear BK220 BK221 HB
 have BK220 := n0_
 have BK221 := n1_
 have HB := n2_
 clear n0_ n1_ n2_
 refine start_ (n := 11) (S := fun w' => w'.cell? ⟨gb220, 0, none⟩ = some (.int .i64 a0_0) ∧ w'.cell? ⟨gb220, 1, none⟩ = some (.slice A0_1 l0_1.length c0_1) ∧ w'.cell? ⟨gb221, 0, none⟩ = some (.int .i64 a1_0) ∧ w'.cell? ⟨gb221, 1, none⟩ = some (.int .i64 a1_1) ∧ w'.cell? ⟨gb221, 2, none⟩ = some (.int .i64 a1_2) ∧ w'.cell? ⟨gb221, 3, none⟩ = some (.slice A1_3 l1_3.length c1_3)) (ds := []) #[U,U,U,U,U,U,U,U,U,U,U] (by kernel_rfl) rfl rfl ⟨cI BK220.out 0, cI BK220.out 1, cI BK221.out 0, cI BK221.out 1, cI BK221.out 2, cI BK221.out 3⟩ (fun hHeld => ?_); refine with_tabW laws_FnExactInside.tab8 laws_FnExactInside.bits8 (fun HT_ HW_ => ?_)
 generalize w32.drew = w33 at BK220 BK221 HB hHeld ⊢
 refine take_ (i := 0) (N := some 28) (v := ?_) (a' := ?_) #[Y,U,U,U,U,U,U,U,U,U,U] rfl rfl (take_ofW HT_.out HW_.out (by kernel_rfl)) (fun _ _ _ h => h) (Or.inl ⟨by rfl, ?_⟩) hHeld ?_ ?_
 rotate_left
 ·rintro w' ⟨s0, s1, s2, s3, s4, s5⟩
  go_simp
  with_reducible rfl
 rotate_left
 ·simp only [Act.put, sA, sZ, sS, i64_w, i32_w]
  rfl
 refine take_ (i := 2) (N := some 30) (v := ?_) (a' := ?_) #[Y,U,Y,U,U,U,U,U,U,U,U] rfl rfl (take_ofW HT_.out HW_.out (by kernel_rfl)) (fun _ _ _ h => h) (Or.inl ⟨by rfl, ?_⟩) hHeld ?_ ?_
 rotate_left
 ·rintro w' ⟨s0, s1, s2, s3, s4, s5⟩
  go_simp
  with_reducible rfl
 rotate_left
 ·simp only [Act.put, sA, sZ, sS, i64_w, i32_w]
  rfl
 refine join_ (σ := Value × Value × Value × Nat) 2 #[Y,Y,Y,Y,Y,Y,Y,Y,Y,U,U] (fun s_ => [(29, .agg #[.int .i64 t224, s_.1]), (31, .agg #[.int .i64 t228, .int .i64 t229, .int .i64 t230, s_.2.1]), (32, .tuple #[.agg #[.int .i64 t234, .int .i64 t235, .int .i64 t236, s_.2.2.1], .bool t240]), (6, .pointer (some ⟨s_.2.2.2, 0, none⟩)), (27, .tuple #[.agg #[.int .i64 t234, .int .i64 t235, .int .i64 t236, s_.2.2.1], .bool t240]), (33, .agg #[.int .i64 t234, .int .i64 t235, .int .i64 t236, s_.2.2.1]), (34, .bool t240)]) (fun s_ w' => (w'.cell? ⟨gb220, 0, none⟩ = some (.int .i64 a0_0) ∧ w'.cell? ⟨gb220, 1, none⟩ = some (.slice A0_1 l0_1.length c0_1) ∧ w'.cell? ⟨gb221, 0, none⟩ = some (.int .i64 a1_0) ∧ w'.cell? ⟨gb221, 1, none⟩ = some (.int .i64 a1_1) ∧ w'.cell? ⟨gb221, 2, none⟩ = some (.int .i64 a1_2) ∧ w'.cell? ⟨gb221, 3, none⟩ = some (.slice A1_3 l1_3.length c1_3)) ∧ (Kd.R (Kd.int .i64) 3 w' w.heap.size (fun _ => True) s_.1 t225) ∧ (Kd.R (Kd.int .u8) 5 w' w.heap.size (fun k_ => some k_ ≠ (s_.2.2.1 : Value).ownBlock) s_.2.1 t231) ∧ (Kd.R (Kd.int .u8) 5 w' w.heap.size (fun k_ => some k_ ≠ (s_.2.1 : Value).ownBlock) s_.2.2.1 t237) ∧ (w'.heap[gb220]? = some (.cells #[.int .i64 a0_0, .slice A0_1 l0_1.length c0_1] 44 (0, 0))) ∧ (w'.heap[gb221]? = some (.cells #[.int .i64 a1_0, .int .i64 a1_1, .int .i64 a1_2, .slice A1_3 l1_3.length c1_3] 45 (0, 0))) ∧ (w'.heap[s_.2.2.2]? = some (.cells #[.int .i64 0, .int .i64 0, .int .i64 0, .slice none 0 0] 28 (0, 0))) ∧ (w.heap.size ≤ s_.2.2.2) ∧ (w.heap.size ≤ s_.2.2.2) ∧ (gb220 ≠ s_.2.2.2) ∧ (s_.2.2.2 ≠ gb220) ∧ (gb221 ≠ s_.2.2.2) ∧ (s_.2.2.2 ≠ gb221) ∧ (Below w.heap.size w w')) ?_ ?_
 rotate_left
 ·intro hCont
  refine two_ (i := 1) (j := 8) (Ni := some 29) (Nj := some 6) #[Y,Y,Y,U,U,U,U,U,U,U,U] #[Y,U,Y,U,U,U,U,U,Y,U,U] rfl rfl rfl rfl (two_of HT_.out (by kernel_rfl)) (by decide) (by decide) (fun K hK => ?_) (fun K hK => ?_)
  ·skip
   refine goes_ Try.func32 (by kernel_rfl) rfl #[.agg #[.int .i64 a0_0, .slice A0_1 l0_1.length c0_1]] (by rfl) rfl rfl xR ?_
   with_reducible refine (laws_toMember.calls k a0_0 _ _ l0_1 t224 t225 _ ?side1 ?side2 A19.out).mono ?_
   (case side1 => repeat (first | exact (cB HR0_1.out HB.out) | (with_reducible refine Kd.C_alloc ?_ _) | (with_reducible refine Kd.C_drewN ?_ _) | (with_reducible refine Kd.C_drew ?_)))
   (case side2 => exact HC0_1.out)
   rintro e w34 ⟨v226, rfl, ho0, hb⟩
   refine ⟨_, rfl, ?_⟩
   have n0_ := aM (Kd.R_lower ho0 (below_size (bl HB.out)))
   have n1_ := aM (bB (g := gb220) (o := .cells #[.int .i64 a0_0, .slice A0_1 l0_1.length c0_1] 44 (0, 0)) (bk BK220.out) hb)
   have n2_ := aM (bB (g := gb221) (o := .cells #[.int .i64 a1_0, .int .i64 a1_1, .int .i64 a1_2, .slice A1_3 l1_3.length c1_3] 45 (0, 0)) (bk BK221.out) hb)
   have n3_ := aM (bS (bl HB.out) hb)
   clear BK220 BK221 HB
   have HO227 := n0_
   have BK220 := n1_
   have BK221 := n2_
   have HB := n3_
   clear n0_ n1_ n2_ n3_
   (try clear hb)
   (try clear hb2)
   (try clear hk)
   (try clear hi)
   (try clear ho0)
   refine hK.out _ _ ⟨cI BK220.out 0, cI BK220.out 1, cI BK221.out 0, cI BK221.out 1, cI BK221.out 2, cI BK221.out 3⟩ (fun hHeld => ?_)
   clear hK K
   refine norm_ (a' := ?_) ?_ ?_
   rotate_left
   ·show Act.put _ (some 29) _ = _
    simp only [Act.put, sA, sZ, sS, i64_w, i32_w]
    rfl
   refine two_ (i := 3) (j := 8) (Ni := some 31) (Nj := some 6) #[Y,Y,Y,Y,U,U,U,U,U,U,U] #[Y,Y,Y,U,U,U,U,U,Y,U,U] rfl rfl rfl rfl (two_of HT_.out (by kernel_rfl)) (by decide) (by decide) (fun K hK => ?_) (fun K hK => ?_)
   ·skip
    refine goes_ Try.func33 (by kernel_rfl) rfl #[.agg #[.int .i64 a1_0, .int .i64 a1_1, .int .i64 a1_2, .slice A1_3 l1_3.length c1_3]] (by rfl) rfl rfl xR ?_
    with_reducible refine (laws_toFrame.calls k a1_0 a1_1 a1_2 _ _ l1_3 t228 t229 t230 t231 _ ?side1 ?side2 A20.out).mono ?_
    (case side1 => repeat (first | exact (cB HR1_3.out HB.out) | (with_reducible refine Kd.C_alloc ?_ _) | (with_reducible refine Kd.C_drewN ?_ _) | (with_reducible refine Kd.C_drew ?_)))
    (case side2 => exact HC1_3.out)
    rintro e w35 ⟨v232, rfl, ho0, hb⟩
    refine ⟨_, rfl, ?_⟩
    have n0_ := aM (kB (kr HO227.out) hb)
    have n1_ := aM (Kd.R_lower ho0 (below_size (bl HB.out)))
    have n2_ := aM (bB (g := gb220) (o := .cells #[.int .i64 a0_0, .slice A0_1 l0_1.length c0_1] 44 (0, 0)) (bk BK220.out) hb)
    have n3_ := aM (bB (g := gb221) (o := .cells #[.int .i64 a1_0, .int .i64 a1_1, .int .i64 a1_2, .slice A1_3 l1_3.length c1_3] 45 (0, 0)) (bk BK221.out) hb)
    have n4_ := aM (bS (bl HB.out) hb)
    clear HO227 BK220
    clear BK221 HB
    have HO227 := n0_
    have HO233 := n1_
    have BK220 := n2_
    have BK221 := n3_
    have HB := n4_
    clear n0_ n1_ n2_ n3_ n4_
    (try clear hb)
    (try clear hb2)
    (try clear hk)
    (try clear hi)
    (try clear ho0)
    obtain ⟨Ao36, co36, eo36⟩ := Kd.R_slice HO227.out
    (first | subst eo36 | (injection eo36 with f1_ f2_ f3_; have f4_ := f1_.symm; have f5_ := f3_.symm; clear f1_ f2_ f3_; subst f4_; subst f5_))
    obtain ⟨Ao37, co37, eo37⟩ := Kd.R_slice HO233.out
    (first | subst eo37 | (injection eo37 with f1_ f2_ f3_; have f4_ := f1_.symm; have f5_ := f3_.symm; clear f1_ f2_ f3_; subst f4_; subst f5_))
    refine hK.out _ _ ⟨cI BK220.out 0, cI BK220.out 1, cI BK221.out 0, cI BK221.out 1, cI BK221.out 2, cI BK221.out 3⟩ (fun hHeld => ?_)
    clear hK K
    refine norm_ (a' := ?_) ?_ ?_
    rotate_left
    ·show Act.put _ (some 31) _ = _
     simp only [Act.put, sA, sZ, sS, i64_w, i32_w]
     rfl
    refine two_ (i := 4) (j := 8) (Ni := some 32) (Nj := some 6) #[Y,Y,Y,Y,Y,U,U,U,U,U,U] #[Y,Y,Y,Y,U,U,U,U,Y,U,U] rfl rfl rfl rfl (two_of HT_.out (by kernel_rfl)) (by decide) (by decide) (fun K hK => ?_) (fun K hK => ?_)
    ·skip
     refine goes_ Try.func18 (by kernel_rfl) rfl #[.agg #[.int .i64 t224, .slice Ao36 t225.length co36], .agg #[.int .i64 t228, .int .i64 t229, .int .i64 t230, .slice Ao37 t231.length co37]] (by rfl) rfl rfl xR ?_
     with_reducible refine (spec_Inside.calls k t224 _ _ t225 t228 t229 t230 _ _ t231 t234 t235 t236 t237 t240 _ ?side1 ?side2 ?side3 ?side4 A21.out).mono ?_
     (case side1 => repeat (first | exact (Kd.R_reads' HO227.out).2.2 | (with_reducible refine Kd.C_alloc ?_ _) | (with_reducible refine Kd.C_drewN ?_ _) | (with_reducible refine Kd.C_drew ?_)))
     (case side2 => exact (Kd.R_reads' HO227.out).2.1)
     (case side3 => repeat (first | exact (Kd.R_reads' HO233.out).2.2 | (with_reducible refine Kd.C_alloc ?_ _) | (with_reducible refine Kd.C_drewN ?_ _) | (with_reducible refine Kd.C_drew ?_)))
     (case side4 => exact (Kd.R_reads' HO233.out).2.1)
     rintro e w38 ⟨v238, rfl, ho0, hb⟩
     refine ⟨_, rfl, ?_⟩
     have n0_ := aM (kB (kr HO227.out) hb)
     have n1_ := aM (Kd.R_elder' (kr HO233.out) (Kd.R_base ho0) hb)
     have n2_ := aM (Kd.R_lower (Kd.R_new' ho0 (Kd.R_lt (kr HO233.out))) (below_size (bl HB.out)))
     have n3_ := aM (bB (g := gb220) (o := .cells #[.int .i64 a0_0, .slice A0_1 l0_1.length c0_1] 44 (0, 0)) (bk BK220.out) hb)
     have n4_ := aM (bB (g := gb221) (o := .cells #[.int .i64 a1_0, .int .i64 a1_1, .int .i64 a1_2, .slice A1_3 l1_3.length c1_3] 45 (0, 0)) (bk BK221.out) hb)
     have n5_ := aM (bS (bl HB.out) hb)
     clear HO227 HO233
     clear BK220 BK221 HB
     have HO227 := n0_
     have HO233 := n1_
     have HO239 := n2_
     have BK220 := n3_
     have BK221 := n4_
     have HB := n5_
     clear n0_ n1_ n2_ n3_ n4_ n5_
     (try clear hb)
     (try clear hb2)
     (try clear hk)
     (try clear hi)
     (try clear ho0)
     refine hK.out _ _ ⟨cI BK220.out 0, cI BK220.out 1, cI BK221.out 0, cI BK221.out 1, cI BK221.out 2, cI BK221.out 3⟩ (fun hHeld => ?_)
     clear hK K
     refine norm_ (a' := ?_) ?_ ?_
     rotate_left
     ·show Act.put _ (some 32) _ = _
      simp only [Act.put, sA, sZ, sS, i64_w, i32_w]
      rfl
     refine pure_ (i := 5) (N := some 27) (v := ?_) (a' := ?_) #[Y,Y,Y,Y,Y,Y,U,U,U,U,U] rfl rfl (any_of HT_.out (by kernel_rfl)) (fun _ _ _ h => h) (Or.inl ⟨by rfl, ?_⟩) ?_ ?_
     rotate_left
     ·intro w'
      go_simp
      with_reducible rfl
     rotate_left
     ·simp only [Act.put, sA, sZ, sS, i64_w, i32_w]
      rfl
     refine pure_ (i := 6) (N := some 33) (v := ?_) (a' := ?_) #[Y,Y,Y,Y,Y,Y,Y,U,U,U,U] rfl rfl (any_of HT_.out (by kernel_rfl)) (fun _ _ _ h => h) (Or.inl ⟨by rfl, ?_⟩) ?_ ?_
     rotate_left
     ·intro w'
      go_simp
      with_reducible rfl
     rotate_left
     ·simp only [Act.put, sA, sZ, sS, i64_w, i32_w]
      rfl
     refine pure_ (i := 7) (N := some 34) (v := ?_) (a' := ?_) #[Y,Y,Y,Y,Y,Y,Y,Y,U,U,U] rfl rfl (any_of HT_.out (by kernel_rfl)) (fun _ _ _ h => h) (Or.inl ⟨by rfl, ?_⟩) ?_ ?_
     rotate_left
     ·intro w'
      go_simp
      with_reducible rfl
     rotate_left
     ·simp only [Act.put, sA, sZ, sS, i64_w, i32_w]
      rfl
     refine one_ (i := 8) (N := some 6) #[Y,Y,Y,Y,Y,Y,Y,Y,Y,U,U] rfl rfl (one_of HT_.out (by kernel_rfl)) (by decide) (fun K hK => ?_)
     refine box_step ?hg (N := 6) ?hd (cs := #[.int .i64 0, .int .i64 0, .int .i64 0, .slice none 0 0]) (t := 28) ?hr ?_; (case hd => rfl); (case hg => rfl); (case hr => first | (go_simp; done) | (go_simp; rfl))
     intro gb241 hg w39 hbox hb
     have n0_ := aM (kB (kr HO227.out) hb)
     have n1_ := aM (kB (kr HO233.out) hb)
     have n2_ := aM (kB (kr HO239.out) hb)
     have n3_ := aM (bB (g := gb220) (o := .cells #[.int .i64 a0_0, .slice A0_1 l0_1.length c0_1] 44 (0, 0)) (bk BK220.out) hb)
     have n4_ := aM (bB (g := gb221) (o := .cells #[.int .i64 a1_0, .int .i64 a1_1, .int .i64 a1_2, .slice A1_3 l1_3.length c1_3] 45 (0, 0)) (bk BK221.out) hb)
     have n5_ := aM (bS (bl HB.out) hb)
     have n6_ := aM (hbox)
     have n7_ := aM ((by rw [hg]; exact (below_size (bl HB.out)) : w.heap.size ≤ gb241))
     have n8_ := aM ((by rw [hg]; exact (below_size (bl HB.out)) : w.heap.size ≤ gb241))
     have n9_ := aM ((by rw [hg]; exact Nat.ne_of_lt (blk_lt (g := gb220) (o := .cells #[.int .i64 a0_0, .slice A0_1 l0_1.length c0_1] 44 (0, 0)) (bk BK220.out)) : gb220 ≠ gb241))
     have n10_ := aM ((by rw [hg]; exact Nat.ne_of_gt (blk_lt (g := gb220) (o := .cells #[.int .i64 a0_0, .slice A0_1 l0_1.length c0_1] 44 (0, 0)) (bk BK220.out)) : gb241 ≠ gb220))
     have n11_ := aM ((by rw [hg]; exact Nat.ne_of_lt (blk_lt (g := gb221) (o := .cells #[.int .i64 a1_0, .int .i64 a1_1, .int .i64 a1_2, .slice A1_3 l1_3.length c1_3] 45 (0, 0)) (bk BK221.out)) : gb221 ≠ gb241))
     have n12_ := aM ((by rw [hg]; exact Nat.ne_of_gt (blk_lt (g := gb221) (o := .cells #[.int .i64 a1_0, .int .i64 a1_1, .int .i64 a1_2, .slice A1_3 l1_3.length c1_3] 45 (0, 0)) (bk BK221.out)) : gb241 ≠ gb221))
     clear HO227 HO233
     clear HO239 BK220
     clear BK221 HB
     have HO227 := n0_
     have HO233 := n1_
     have HO239 := n2_
     have BK220 := n3_
     have BK221 := n4_
     have HB := n5_
     have BK241 := n6_
     have GW241 := n7_
     have GE241 := n8_
     have NB220_241 := n9_
     have NB241_220 := n10_
     have NB221_241 := n11_
     have NB241_221 := n12_
     clear n0_ n1_ n2_ n3_ n4_ n5_ n6_ n7_ n8_ n9_ n10_ n11_ n12_
     clear hb hbox hg
     refine hK.out _ _ ⟨cI BK220.out 0, cI BK220.out 1, cI BK221.out 0, cI BK221.out 1, cI BK221.out 2, cI BK221.out 3⟩ (fun hHeld => ?_)
     clear hK K
     refine norm_ (a' := ?_) ?_ ?_
     rotate_left
     ·show Act.put _ (some 6) _ = _
      simp only [Act.put, sA, sZ, sS, i64_w, i32_w]
      rfl
     exact norm_ (by simp only [putAll, Act.put, sA, sZ, sS]) (hCont (.slice Ao36 t225.length co36, .slice Ao37 t231.length co37, v238, gb241) _ ⟨hHeld, (kr HO227.out), (kr (Kd.R_mono HO233.out (fun _ hk => hk.2))), (kr (Kd.R_mono HO239.out (fun _ hk => hk.2))), (bk BK220.out), (bk BK221.out), (bk BK241.out), GW241.out, GE241.out, NB220_241.out, NB241_220.out, NB221_241.out, NB241_221.out, (bl HB.out)⟩)
    ·skip
     refine box_step ?hg (N := 6) ?hd (cs := #[.int .i64 0, .int .i64 0, .int .i64 0, .slice none 0 0]) (t := 28) ?hr ?_; (case hd => rfl); (case hg => rfl); (case hr => first | (go_simp; done) | (go_simp; rfl))
     intro gb241 hg w36 hbox hb
     have n0_ := aM (kB (kr HO227.out) hb)
     have n1_ := aM (kB (kr HO233.out) hb)
     have n2_ := aM (bB (g := gb220) (o := .cells #[.int .i64 a0_0, .slice A0_1 l0_1.length c0_1] 44 (0, 0)) (bk BK220.out) hb)
     have n3_ := aM (bB (g := gb221) (o := .cells #[.int .i64 a1_0, .int .i64 a1_1, .int .i64 a1_2, .slice A1_3 l1_3.length c1_3] 45 (0, 0)) (bk BK221.out) hb)
     have n4_ := aM (bS (bl HB.out) hb)
     have n5_ := aM (hbox)
     have n6_ := aM ((by rw [hg]; exact (below_size (bl HB.out)) : w.heap.size ≤ gb241))
     have n7_ := aM ((by rw [hg]; exact (below_size (bl HB.out)) : w.heap.size ≤ gb241))
     have n8_ := aM ((by rw [hg]; exact Nat.ne_of_lt (blk_lt (g := gb220) (o := .cells #[.int .i64 a0_0, .slice A0_1 l0_1.length c0_1] 44 (0, 0)) (bk BK220.out)) : gb220 ≠ gb241))
     have n9_ := aM ((by rw [hg]; exact Nat.ne_of_gt (blk_lt (g := gb220) (o := .cells #[.int .i64 a0_0, .slice A0_1 l0_1.length c0_1] 44 (0, 0)) (bk BK220.out)) : gb241 ≠ gb220))
     have n10_ := aM ((by rw [hg]; exact Nat.ne_of_lt (blk_lt (g := gb221) (o := .cells #[.int .i64 a1_0, .int .i64 a1_1, .int .i64 a1_2, .slice A1_3 l1_3.length c1_3] 45 (0, 0)) (bk BK221.out)) : gb221 ≠ gb241))
     have n11_ := aM ((by rw [hg]; exact Nat.ne_of_gt (blk_lt (g := gb221) (o := .cells #[.int .i64 a1_0, .int .i64 a1_1, .int .i64 a1_2, .slice A1_3 l1_3.length c1_3] 45 (0, 0)) (bk BK221.out)) : gb241 ≠ gb221))
     clear HO227 HO233
     clear BK220 BK221 HB
     have HO227 := n0_
     have HO233 := n1_
     have BK220 := n2_
     have BK221 := n3_
     have HB := n4_
     have BK241 := n5_
     have GW241 := n6_
     have GE241 := n7_
     have NB220_241 := n8_
     have NB241_220 := n9_
     have NB221_241 := n10_
     have NB241_221 := n11_
     clear n0_ n1_ n2_ n3_ n4_ n5_ n6_ n7_ n8_ n9_ n10_ n11_
     clear hb hbox hg
     obtain ⟨Ao37, co37, eo37⟩ := Kd.R_slice HO227.out
     (first | subst eo37 | (injection eo37 with f1_ f2_ f3_; have f4_ := f1_.symm; have f5_ := f3_.symm; clear f1_ f2_ f3_; subst f4_; subst f5_))
     obtain ⟨Ao38, co38, eo38⟩ := Kd.R_slice HO233.out
     (first | subst eo38 | (injection eo38 with f1_ f2_ f3_; have f4_ := f1_.symm; have f5_ := f3_.symm; clear f1_ f2_ f3_; subst f4_; subst f5_))
     refine hK.out _ _ ⟨cI BK220.out 0, cI BK220.out 1, cI BK221.out 0, cI BK221.out 1, cI BK221.out 2, cI BK221.out 3⟩ (fun hHeld => ?_)
     clear hK K
     refine norm_ (a' := ?_) ?_ ?_
     rotate_left
     ·show Act.put _ (some 6) _ = _
      simp only [Act.put, sA, sZ, sS, i64_w, i32_w]
      rfl
     refine one_ (i := 4) (N := some 32) #[Y,Y,Y,Y,Y,U,U,U,Y,U,U] rfl rfl (one_of HT_.out (by kernel_rfl)) (by decide) (fun K hK => ?_)
     refine goes_ Try.func18 (by kernel_rfl) rfl #[.agg #[.int .i64 t224, .slice Ao37 t225.length co37], .agg #[.int .i64 t228, .int .i64 t229, .int .i64 t230, .slice Ao38 t231.length co38]] (by rfl) rfl rfl xR ?_
     with_reducible refine (spec_Inside.calls k t224 _ _ t225 t228 t229 t230 _ _ t231 t234 t235 t236 t237 t240 _ ?side1 ?side2 ?side3 ?side4 A21.out).mono ?_
     (case side1 => repeat (first | exact (Kd.R_reads' HO227.out).2.2 | (with_reducible refine Kd.C_alloc ?_ _) | (with_reducible refine Kd.C_drewN ?_ _) | (with_reducible refine Kd.C_drew ?_)))
     (case side2 => exact (Kd.R_reads' HO227.out).2.1)
     (case side3 => repeat (first | exact (Kd.R_reads' HO233.out).2.2 | (with_reducible refine Kd.C_alloc ?_ _) | (with_reducible refine Kd.C_drewN ?_ _) | (with_reducible refine Kd.C_drew ?_)))
     (case side4 => exact (Kd.R_reads' HO233.out).2.1)
     rintro e w39 ⟨v238, rfl, ho0, hb⟩
     refine ⟨_, rfl, ?_⟩
     have n0_ := aM (kB (kr HO227.out) hb)
     have n1_ := aM (Kd.R_elder' (kr HO233.out) (Kd.R_base ho0) hb)
     have n2_ := aM (Kd.R_lower (Kd.R_new' ho0 (Kd.R_lt (kr HO233.out))) (below_size (bl HB.out)))
     have n3_ := aM (bB (g := gb220) (o := .cells #[.int .i64 a0_0, .slice A0_1 l0_1.length c0_1] 44 (0, 0)) (bk BK220.out) hb)
     have n4_ := aM (bB (g := gb221) (o := .cells #[.int .i64 a1_0, .int .i64 a1_1, .int .i64 a1_2, .slice A1_3 l1_3.length c1_3] 45 (0, 0)) (bk BK221.out) hb)
     have n5_ := aM (bB (g := gb241) (o := .cells #[.int .i64 0, .int .i64 0, .int .i64 0, .slice none 0 0] 28 (0, 0)) (bk BK241.out) hb)
     have n6_ := aM (bS (bl HB.out) hb)
     clear HO227 HO233
     clear BK220 BK221
     clear BK241 HB
     have HO227 := n0_
     have HO233 := n1_
     have HO239 := n2_
     have BK220 := n3_
     have BK221 := n4_
     have BK241 := n5_
     have HB := n6_
     clear n0_ n1_ n2_ n3_ n4_ n5_ n6_
     (try clear hb)
     (try clear hb2)
     (try clear hk)
     (try clear hi)
     (try clear ho0)
     refine hK.out _ _ ⟨cI BK220.out 0, cI BK220.out 1, cI BK221.out 0, cI BK221.out 1, cI BK221.out 2, cI BK221.out 3⟩ (fun hHeld => ?_)
     clear hK K
     refine norm_ (a' := ?_) ?_ ?_
     rotate_left
     ·show Act.put _ (some 32) _ = _
      simp only [Act.put, sA, sZ, sS, i64_w, i32_w]
      rfl
     refine pure_ (i := 5) (N := some 27) (v := ?_) (a' := ?_) #[Y,Y,Y,Y,Y,Y,U,U,Y,U,U] rfl rfl (any_of HT_.out (by kernel_rfl)) (fun _ _ _ h => h) (Or.inl ⟨by rfl, ?_⟩) ?_ ?_
     rotate_left
     ·intro w'
      go_simp
      with_reducible rfl
     rotate_left
     ·simp only [Act.put, sA, sZ, sS, i64_w, i32_w]
      rfl
     refine pure_ (i := 6) (N := some 33) (v := ?_) (a' := ?_) #[Y,Y,Y,Y,Y,Y,Y,U,Y,U,U] rfl rfl (any_of HT_.out (by kernel_rfl)) (fun _ _ _ h => h) (Or.inl ⟨by rfl, ?_⟩) ?_ ?_
     rotate_left
     ·intro w'
      go_simp
      with_reducible rfl
     rotate_left
     ·simp only [Act.put, sA, sZ, sS, i64_w, i32_w]
      rfl
     refine pure_ (i := 7) (N := some 34) (v := ?_) (a' := ?_) #[Y,Y,Y,Y,Y,Y,Y,Y,Y,U,U] rfl rfl (any_of HT_.out (by kernel_rfl)) (fun _ _ _ h => h) (Or.inl ⟨by rfl, ?_⟩) ?_ ?_
     rotate_left
     ·intro w'
      go_simp
      with_reducible rfl
     rotate_left
     ·simp only [Act.put, sA, sZ, sS, i64_w, i32_w]
      rfl
     exact norm_ (by simp only [putAll, Act.put, sA, sZ, sS]) (hCont (.slice Ao37 t225.length co37, .slice Ao38 t231.length co38, v238, gb241) _ ⟨hHeld, (kr HO227.out), (kr (Kd.R_mono HO233.out (fun _ hk => hk.2))), (kr (Kd.R_mono HO239.out (fun _ hk => hk.2))), (bk BK220.out), (bk BK221.out), (bk BK241.out), GW241.out, GE241.out, NB220_241.out, NB241_220.out, NB221_241.out, NB241_221.out, (bl HB.out)⟩)
   ·skip
    refine box_step ?hg (N := 6) ?hd (cs := #[.int .i64 0, .int .i64 0, .int .i64 0, .slice none 0 0]) (t := 28) ?hr ?_; (case hd => rfl); (case hg => rfl); (case hr => first | (go_simp; done) | (go_simp; rfl))
    intro gb241 hg w35 hbox hb
    have n0_ := aM (kB (kr HO227.out) hb)
    have n1_ := aM (bB (g := gb220) (o := .cells #[.int .i64 a0_0, .slice A0_1 l0_1.length c0_1] 44 (0, 0)) (bk BK220.out) hb)
    have n2_ := aM (bB (g := gb221) (o := .cells #[.int .i64 a1_0, .int .i64 a1_1, .int .i64 a1_2, .slice A1_3 l1_3.length c1_3] 45 (0, 0)) (bk BK221.out) hb)
    have n3_ := aM (bS (bl HB.out) hb)
    have n4_ := aM (hbox)
    have n5_ := aM ((by rw [hg]; exact (below_size (bl HB.out)) : w.heap.size ≤ gb241))
    have n6_ := aM ((by rw [hg]; exact (below_size (bl HB.out)) : w.heap.size ≤ gb241))
    have n7_ := aM ((by rw [hg]; exact Nat.ne_of_lt (blk_lt (g := gb220) (o := .cells #[.int .i64 a0_0, .slice A0_1 l0_1.length c0_1] 44 (0, 0)) (bk BK220.out)) : gb220 ≠ gb241))
    have n8_ := aM ((by rw [hg]; exact Nat.ne_of_gt (blk_lt (g := gb220) (o := .cells #[.int .i64 a0_0, .slice A0_1 l0_1.length c0_1] 44 (0, 0)) (bk BK220.out)) : gb241 ≠ gb220))
    have n9_ := aM ((by rw [hg]; exact Nat.ne_of_lt (blk_lt (g := gb221) (o := .cells #[.int .i64 a1_0, .int .i64 a1_1, .int .i64 a1_2, .slice A1_3 l1_3.length c1_3] 45 (0, 0)) (bk BK221.out)) : gb221 ≠ gb241))
    have n10_ := aM ((by rw [hg]; exact Nat.ne_of_gt (blk_lt (g := gb221) (o := .cells #[.int .i64 a1_0, .int .i64 a1_1, .int .i64 a1_2, .slice A1_3 l1_3.length c1_3] 45 (0, 0)) (bk BK221.out)) : gb241 ≠ gb221))
    clear HO227 BK220
    clear BK221 HB
    have HO227 := n0_
    have BK220 := n1_
    have BK221 := n2_
    have HB := n3_
    have BK241 := n4_
    have GW241 := n5_
    have GE241 := n6_
    have NB220_241 := n7_
    have NB241_220 := n8_
    have NB221_241 := n9_
    have NB241_221 := n10_
    clear n0_ n1_ n2_ n3_ n4_ n5_ n6_ n7_ n8_ n9_ n10_
    clear hb hbox hg
    refine hK.out _ _ ⟨cI BK220.out 0, cI BK220.out 1, cI BK221.out 0, cI BK221.out 1, cI BK221.out 2, cI BK221.out 3⟩ (fun hHeld => ?_)
    clear hK K
    refine norm_ (a' := ?_) ?_ ?_
    rotate_left
    ·show Act.put _ (some 6) _ = _
     simp only [Act.put, sA, sZ, sS, i64_w, i32_w]
     rfl
    refine one_ (i := 3) (N := some 31) #[Y,Y,Y,Y,U,U,U,U,Y,U,U] rfl rfl (one_of HT_.out (by kernel_rfl)) (by decide) (fun K hK => ?_)
    refine goes_ Try.func33 (by kernel_rfl) rfl #[.agg #[.int .i64 a1_0, .int .i64 a1_1, .int .i64 a1_2, .slice A1_3 l1_3.length c1_3]] (by rfl) rfl rfl xR ?_
    with_reducible refine (laws_toFrame.calls k a1_0 a1_1 a1_2 _ _ l1_3 t228 t229 t230 t231 _ ?side1 ?side2 A20.out).mono ?_
    (case side1 => repeat (first | exact (cB HR1_3.out HB.out) | (with_reducible refine Kd.C_alloc ?_ _) | (with_reducible refine Kd.C_drewN ?_ _) | (with_reducible refine Kd.C_drew ?_)))
    (case side2 => exact HC1_3.out)
    rintro e w36 ⟨v232, rfl, ho0, hb⟩
    refine ⟨_, rfl, ?_⟩
    have n0_ := aM (kB (kr HO227.out) hb)
    have n1_ := aM (Kd.R_lower ho0 (below_size (bl HB.out)))
    have n2_ := aM (bB (g := gb220) (o := .cells #[.int .i64 a0_0, .slice A0_1 l0_1.length c0_1] 44 (0, 0)) (bk BK220.out) hb)
    have n3_ := aM (bB (g := gb221) (o := .cells #[.int .i64 a1_0, .int .i64 a1_1, .int .i64 a1_2, .slice A1_3 l1_3.length c1_3] 45 (0, 0)) (bk BK221.out) hb)
    have n4_ := aM (bB (g := gb241) (o := .cells #[.int .i64 0, .int .i64 0, .int .i64 0, .slice none 0 0] 28 (0, 0)) (bk BK241.out) hb)
    have n5_ := aM (bS (bl HB.out) hb)
    clear HO227 BK220
    clear BK221 BK241 HB
    have HO227 := n0_
    have HO233 := n1_
    have BK220 := n2_
    have BK221 := n3_
    have BK241 := n4_
    have HB := n5_
    clear n0_ n1_ n2_ n3_ n4_ n5_
    (try clear hb)
    (try clear hb2)
    (try clear hk)
    (try clear hi)
    (try clear ho0)
    obtain ⟨Ao37, co37, eo37⟩ := Kd.R_slice HO227.out
    (first | subst eo37 | (injection eo37 with f1_ f2_ f3_; have f4_ := f1_.symm; have f5_ := f3_.symm; clear f1_ f2_ f3_; subst f4_; subst f5_))
    obtain ⟨Ao38, co38, eo38⟩ := Kd.R_slice HO233.out
    (first | subst eo38 | (injection eo38 with f1_ f2_ f3_; have f4_ := f1_.symm; have f5_ := f3_.symm; clear f1_ f2_ f3_; subst f4_; subst f5_))
    refine hK.out _ _ ⟨cI BK220.out 0, cI BK220.out 1, cI BK221.out 0, cI BK221.out 1, cI BK221.out 2, cI BK221.out 3⟩ (fun hHeld => ?_)
    clear hK K
    refine norm_ (a' := ?_) ?_ ?_
    rotate_left
    ·show Act.put _ (some 31) _ = _
     simp only [Act.put, sA, sZ, sS, i64_w, i32_w]
     rfl
    refine one_ (i := 4) (N := some 32) #[Y,Y,Y,Y,Y,U,U,U,Y,U,U] rfl rfl (one_of HT_.out (by kernel_rfl)) (by decide) (fun K hK => ?_)
    refine goes_ Try.func18 (by kernel_rfl) rfl #[.agg #[.int .i64 t224, .slice Ao37 t225.length co37], .agg #[.int .i64 t228, .int .i64 t229, .int .i64 t230, .slice Ao38 t231.length co38]] (by rfl) rfl rfl xR ?_
    with_reducible refine (spec_Inside.calls k t224 _ _ t225 t228 t229 t230 _ _ t231 t234 t235 t236 t237 t240 _ ?side1 ?side2 ?side3 ?side4 A21.out).mono ?_
    (case side1 => repeat (first | exact (Kd.R_reads' HO227.out).2.2 | (with_reducible refine Kd.C_alloc ?_ _) | (with_reducible refine Kd.C_drewN ?_ _) | (with_reducible refine Kd.C_drew ?_)))
    (case side2 => exact (Kd.R_reads' HO227.out).2.1)
    (case side3 => repeat (first | exact (Kd.R_reads' HO233.out).2.2 | (with_reducible refine Kd.C_alloc ?_ _) | (with_reducible refine Kd.C_drewN ?_ _) | (with_reducible refine Kd.C_drew ?_)))
    (case side4 => exact (Kd.R_reads' HO233.out).2.1)
    rintro e w39 ⟨v238, rfl, ho0, hb⟩
    refine ⟨_, rfl, ?_⟩
    have n0_ := aM (kB (kr HO227.out) hb)
    have n1_ := aM (Kd.R_elder' (kr HO233.out) (Kd.R_base ho0) hb)
    have n2_ := aM (Kd.R_lower (Kd.R_new' ho0 (Kd.R_lt (kr HO233.out))) (below_size (bl HB.out)))
    have n3_ := aM (bB (g := gb220) (o := .cells #[.int .i64 a0_0, .slice A0_1 l0_1.length c0_1] 44 (0, 0)) (bk BK220.out) hb)
    have n4_ := aM (bB (g := gb221) (o := .cells #[.int .i64 a1_0, .int .i64 a1_1, .int .i64 a1_2, .slice A1_3 l1_3.length c1_3] 45 (0, 0)) (bk BK221.out) hb)
    have n5_ := aM (bB (g := gb241) (o := .cells #[.int .i64 0, .int .i64 0, .int .i64 0, .slice none 0 0] 28 (0, 0)) (bk BK241.out) hb)
    have n6_ := aM (bS (bl HB.out) hb)
    clear HO227 HO233
    clear BK220 BK221
    clear BK241 HB
    have HO227 := n0_
    have HO233 := n1_
    have HO239 := n2_
    have BK220 := n3_
    have BK221 := n4_
    have BK241 := n5_
    have HB := n6_
    clear n0_ n1_ n2_ n3_ n4_ n5_ n6_
    (try clear hb)
    (try clear hb2)
    (try clear hk)
    (try clear hi)
    (try clear ho0)
    refine hK.out _ _ ⟨cI BK220.out 0, cI BK220.out 1, cI BK221.out 0, cI BK221.out 1, cI BK221.out 2, cI BK221.out 3⟩ (fun hHeld => ?_)
    clear hK K
    refine norm_ (a' := ?_) ?_ ?_
    rotate_left
    ·show Act.put _ (some 32) _ = _
     simp only [Act.put, sA, sZ, sS, i64_w, i32_w]
     rfl
    refine pure_ (i := 5) (N := some 27) (v := ?_) (a' := ?_) #[Y,Y,Y,Y,Y,Y,U,U,Y,U,U] rfl rfl (any_of HT_.out (by kernel_rfl)) (fun _ _ _ h => h) (Or.inl ⟨by rfl, ?_⟩) ?_ ?_
    rotate_left
    ·intro w'
     go_simp
     with_reducible rfl
    rotate_left
    ·simp only [Act.put, sA, sZ, sS, i64_w, i32_w]
     rfl
    refine pure_ (i := 6) (N := some 33) (v := ?_) (a' := ?_) #[Y,Y,Y,Y,Y,Y,Y,U,Y,U,U] rfl rfl (any_of HT_.out (by kernel_rfl)) (fun _ _ _ h => h) (Or.inl ⟨by rfl, ?_⟩) ?_ ?_
    rotate_left
    ·intro w'
     go_simp
     with_reducible rfl
    rotate_left
    ·simp only [Act.put, sA, sZ, sS, i64_w, i32_w]
     rfl
    refine pure_ (i := 7) (N := some 34) (v := ?_) (a' := ?_) #[Y,Y,Y,Y,Y,Y,Y,Y,Y,U,U] rfl rfl (any_of HT_.out (by kernel_rfl)) (fun _ _ _ h => h) (Or.inl ⟨by rfl, ?_⟩) ?_ ?_
    rotate_left
    ·intro w'
     go_simp
     with_reducible rfl
    rotate_left
    ·simp only [Act.put, sA, sZ, sS, i64_w, i32_w]
     rfl
    exact norm_ (by simp only [putAll, Act.put, sA, sZ, sS]) (hCont (.slice Ao37 t225.length co37, .slice Ao38 t231.length co38, v238, gb241) _ ⟨hHeld, (kr HO227.out), (kr (Kd.R_mono HO233.out (fun _ hk => hk.2))), (kr (Kd.R_mono HO239.out (fun _ hk => hk.2))), (bk BK220.out), (bk BK221.out), (bk BK241.out), GW241.out, GE241.out, NB220_241.out, NB241_220.out, NB221_241.out, NB241_221.out, (bl HB.out)⟩)
  ·skip
   refine box_step ?hg (N := 6) ?hd (cs := #[.int .i64 0, .int .i64 0, .int .i64 0, .slice none 0 0]) (t := 28) ?hr ?_; (case hd => rfl); (case hg => rfl); (case hr => first | (go_simp; done) | (go_simp; rfl))
   intro gb241 hg w34 hbox hb
   have n0_ := aM (bB (g := gb220) (o := .cells #[.int .i64 a0_0, .slice A0_1 l0_1.length c0_1] 44 (0, 0)) (bk BK220.out) hb)
   have n1_ := aM (bB (g := gb221) (o := .cells #[.int .i64 a1_0, .int .i64 a1_1, .int .i64 a1_2, .slice A1_3 l1_3.length c1_3] 45 (0, 0)) (bk BK221.out) hb)
   have n2_ := aM (bS (bl HB.out) hb)
   have n3_ := aM (hbox)
   have n4_ := aM ((by rw [hg]; exact (below_size (bl HB.out)) : w.heap.size ≤ gb241))
   have n5_ := aM ((by rw [hg]; exact (below_size (bl HB.out)) : w.heap.size ≤ gb241))
   have n6_ := aM ((by rw [hg]; exact Nat.ne_of_lt (blk_lt (g := gb220) (o := .cells #[.int .i64 a0_0, .slice A0_1 l0_1.length c0_1] 44 (0, 0)) (bk BK220.out)) : gb220 ≠ gb241))
   have n7_ := aM ((by rw [hg]; exact Nat.ne_of_gt (blk_lt (g := gb220) (o := .cells #[.int .i64 a0_0, .slice A0_1 l0_1.length c0_1] 44 (0, 0)) (bk BK220.out)) : gb241 ≠ gb220))
   have n8_ := aM ((by rw [hg]; exact Nat.ne_of_lt (blk_lt (g := gb221) (o := .cells #[.int .i64 a1_0, .int .i64 a1_1, .int .i64 a1_2, .slice A1_3 l1_3.length c1_3] 45 (0, 0)) (bk BK221.out)) : gb221 ≠ gb241))
   have n9_ := aM ((by rw [hg]; exact Nat.ne_of_gt (blk_lt (g := gb221) (o := .cells #[.int .i64 a1_0, .int .i64 a1_1, .int .i64 a1_2, .slice A1_3 l1_3.length c1_3] 45 (0, 0)) (bk BK221.out)) : gb241 ≠ gb221))
   clear BK220 BK221 HB
   have BK220 := n0_
   have BK221 := n1_
   have HB := n2_
   have BK241 := n3_
   have GW241 := n4_
   have GE241 := n5_
   have NB220_241 := n6_
   have NB241_220 := n7_
   have NB221_241 := n8_
   have NB241_221 := n9_
   clear n0_ n1_ n2_ n3_ n4_ n5_ n6_ n7_ n8_ n9_
   clear hb hbox hg
   refine hK.out _ _ ⟨cI BK220.out 0, cI BK220.out 1, cI BK221.out 0, cI BK221.out 1, cI BK221.out 2, cI BK221.out 3⟩ (fun hHeld => ?_)
   clear hK K
   refine norm_ (a' := ?_) ?_ ?_
   rotate_left
   ·show Act.put _ (some 6) _ = _
    simp only [Act.put, sA, sZ, sS, i64_w, i32_w]
    rfl
   refine one_ (i := 1) (N := some 29) #[Y,Y,Y,U,U,U,U,U,Y,U,U] rfl rfl (one_of HT_.out (by kernel_rfl)) (by decide) (fun K hK => ?_)
   refine goes_ Try.func32 (by kernel_rfl) rfl #[.agg #[.int .i64 a0_0, .slice A0_1 l0_1.length c0_1]] (by rfl) rfl rfl xR ?_
   with_reducible refine (laws_toMember.calls k a0_0 _ _ l0_1 t224 t225 _ ?side1 ?side2 A19.out).mono ?_
   (case side1 => repeat (first | exact (cB HR0_1.out HB.out) | (with_reducible refine Kd.C_alloc ?_ _) | (with_reducible refine Kd.C_drewN ?_ _) | (with_reducible refine Kd.C_drew ?_)))
   (case side2 => exact HC0_1.out)
   rintro e w35 ⟨v226, rfl, ho0, hb⟩
   refine ⟨_, rfl, ?_⟩
   have n0_ := aM (Kd.R_lower ho0 (below_size (bl HB.out)))
   have n1_ := aM (bB (g := gb220) (o := .cells #[.int .i64 a0_0, .slice A0_1 l0_1.length c0_1] 44 (0, 0)) (bk BK220.out) hb)
   have n2_ := aM (bB (g := gb221) (o := .cells #[.int .i64 a1_0, .int .i64 a1_1, .int .i64 a1_2, .slice A1_3 l1_3.length c1_3] 45 (0, 0)) (bk BK221.out) hb)
   have n3_ := aM (bB (g := gb241) (o := .cells #[.int .i64 0, .int .i64 0, .int .i64 0, .slice none 0 0] 28 (0, 0)) (bk BK241.out) hb)
   have n4_ := aM (bS (bl HB.out) hb)
   clear BK220 BK221
   clear BK241 HB
   have HO227 := n0_
   have BK220 := n1_
   have BK221 := n2_
   have BK241 := n3_
   have HB := n4_
   clear n0_ n1_ n2_ n3_ n4_
   (try clear hb)
   (try clear hb2)
   (try clear hk)
   (try clear hi)
   (try clear ho0)
   refine hK.out _ _ ⟨cI BK220.out 0, cI BK220.out 1, cI BK221.out 0, cI BK221.out 1, cI BK221.out 2, cI BK221.out 3⟩ (fun hHeld => ?_)
   clear hK K
   refine norm_ (a' := ?_) ?_ ?_
   rotate_left
   ·show Act.put _ (some 29) _ = _
    simp only [Act.put, sA, sZ, sS, i64_w, i32_w]
    rfl
   refine one_ (i := 3) (N := some 31) #[Y,Y,Y,Y,U,U,U,U,Y,U,U] rfl rfl (one_of HT_.out (by kernel_rfl)) (by decide) (fun K hK => ?_)
   refine goes_ Try.func33 (by kernel_rfl) rfl #[.agg #[.int .i64 a1_0, .int .i64 a1_1, .int .i64 a1_2, .slice A1_3 l1_3.length c1_3]] (by rfl) rfl rfl xR ?_
   with_reducible refine (laws_toFrame.calls k a1_0 a1_1 a1_2 _ _ l1_3 t228 t229 t230 t231 _ ?side1 ?side2 A20.out).mono ?_
   (case side1 => repeat (first | exact (cB HR1_3.out HB.out) | (with_reducible refine Kd.C_alloc ?_ _) | (with_reducible refine Kd.C_drewN ?_ _) | (with_reducible refine Kd.C_drew ?_)))
   (case side2 => exact HC1_3.out)
   rintro e w36 ⟨v232, rfl, ho0, hb⟩
   refine ⟨_, rfl, ?_⟩
   have n0_ := aM (kB (kr HO227.out) hb)
   have n1_ := aM (Kd.R_lower ho0 (below_size (bl HB.out)))
   have n2_ := aM (bB (g := gb220) (o := .cells #[.int .i64 a0_0, .slice A0_1 l0_1.length c0_1] 44 (0, 0)) (bk BK220.out) hb)
   have n3_ := aM (bB (g := gb221) (o := .cells #[.int .i64 a1_0, .int .i64 a1_1, .int .i64 a1_2, .slice A1_3 l1_3.length c1_3] 45 (0, 0)) (bk BK221.out) hb)
   have n4_ := aM (bB (g := gb241) (o := .cells #[.int .i64 0, .int .i64 0, .int .i64 0, .slice none 0 0] 28 (0, 0)) (bk BK241.out) hb)
   have n5_ := aM (bS (bl HB.out) hb)
   clear HO227 BK220
   clear BK221 BK241 HB
   have HO227 := n0_
   have HO233 := n1_
   have BK220 := n2_
   have BK221 := n3_
   have BK241 := n4_
   have HB := n5_
   clear n0_ n1_ n2_ n3_ n4_ n5_
   (try clear hb)
   (try clear hb2)
   (try clear hk)
   (try clear hi)
   (try clear ho0)
   obtain ⟨Ao37, co37, eo37⟩ := Kd.R_slice HO227.out
   (first | subst eo37 | (injection eo37 with f1_ f2_ f3_; have f4_ := f1_.symm; have f5_ := f3_.symm; clear f1_ f2_ f3_; subst f4_; subst f5_))
   obtain ⟨Ao38, co38, eo38⟩ := Kd.R_slice HO233.out
   (first | subst eo38 | (injection eo38 with f1_ f2_ f3_; have f4_ := f1_.symm; have f5_ := f3_.symm; clear f1_ f2_ f3_; subst f4_; subst f5_))
   refine hK.out _ _ ⟨cI BK220.out 0, cI BK220.out 1, cI BK221.out 0, cI BK221.out 1, cI BK221.out 2, cI BK221.out 3⟩ (fun hHeld => ?_)
   clear hK K
   refine norm_ (a' := ?_) ?_ ?_
   rotate_left
   ·show Act.put _ (some 31) _ = _
    simp only [Act.put, sA, sZ, sS, i64_w, i32_w]
    rfl
   refine one_ (i := 4) (N := some 32) #[Y,Y,Y,Y,Y,U,U,U,Y,U,U] rfl rfl (one_of HT_.out (by kernel_rfl)) (by decide) (fun K hK => ?_)
   refine goes_ Try.func18 (by kernel_rfl) rfl #[.agg #[.int .i64 t224, .slice Ao37 t225.length co37], .agg #[.int .i64 t228, .int .i64 t229, .int .i64 t230, .slice Ao38 t231.length co38]] (by rfl) rfl rfl xR ?_
   with_reducible refine (spec_Inside.calls k t224 _ _ t225 t228 t229 t230 _ _ t231 t234 t235 t236 t237 t240 _ ?side1 ?side2 ?side3 ?side4 A21.out).mono ?_
   (case side1 => repeat (first | exact (Kd.R_reads' HO227.out).2.2 | (with_reducible refine Kd.C_alloc ?_ _) | (with_reducible refine Kd.C_drewN ?_ _) | (with_reducible refine Kd.C_drew ?_)))
   (case side2 => exact (Kd.R_reads' HO227.out).2.1)
   (case side3 => repeat (first | exact (Kd.R_reads' HO233.out).2.2 | (with_reducible refine Kd.C_alloc ?_ _) | (with_reducible refine Kd.C_drewN ?_ _) | (with_reducible refine Kd.C_drew ?_)))
   (case side4 => exact (Kd.R_reads' HO233.out).2.1)
   rintro e w39 ⟨v238, rfl, ho0, hb⟩
   refine ⟨_, rfl, ?_⟩
   have n0_ := aM (kB (kr HO227.out) hb)
   have n1_ := aM (Kd.R_elder' (kr HO233.out) (Kd.R_base ho0) hb)
   have n2_ := aM (Kd.R_lower (Kd.R_new' ho0 (Kd.R_lt (kr HO233.out))) (below_size (bl HB.out)))
   have n3_ := aM (bB (g := gb220) (o := .cells #[.int .i64 a0_0, .slice A0_1 l0_1.length c0_1] 44 (0, 0)) (bk BK220.out) hb)
   have n4_ := aM (bB (g := gb221) (o := .cells #[.int .i64 a1_0, .int .i64 a1_1, .int .i64 a1_2, .slice A1_3 l1_3.length c1_3] 45 (0, 0)) (bk BK221.out) hb)
   have n5_ := aM (bB (g := gb241) (o := .cells #[.int .i64 0, .int .i64 0, .int .i64 0, .slice none 0 0] 28 (0, 0)) (bk BK241.out) hb)
   have n6_ := aM (bS (bl HB.out) hb)
   clear HO227 HO233
   clear BK220 BK221
   clear BK241 HB
   have HO227 := n0_
   have HO233 := n1_
   have HO239 := n2_
   have BK220 := n3_
   have BK221 := n4_
   have BK241 := n5_
   have HB := n6_
   clear n0_ n1_ n2_ n3_ n4_ n5_ n6_
   (try clear hb)
   (try clear hb2)
   (try clear hk)
   (try clear hi)
   (try clear ho0)
   refine hK.out _ _ ⟨cI BK220.out 0, cI BK220.out 1, cI BK221.out 0, cI BK221.out 1, cI BK221.out 2, cI BK221.out 3⟩ (fun hHeld => ?_)
   clear hK K
   refine norm_ (a' := ?_) ?_ ?_
   rotate_left
   ·show Act.put _ (some 32) _ = _
    simp only [Act.put, sA, sZ, sS, i64_w, i32_w]
    rfl
   refine pure_ (i := 5) (N := some 27) (v := ?_) (a' := ?_) #[Y,Y,Y,Y,Y,Y,U,U,Y,U,U] rfl rfl (any_of HT_.out (by kernel_rfl)) (fun _ _ _ h => h) (Or.inl ⟨by rfl, ?_⟩) ?_ ?_
   rotate_left
   ·intro w'
    go_simp
    with_reducible rfl
   rotate_left
   ·simp only [Act.put, sA, sZ, sS, i64_w, i32_w]
    rfl
   refine pure_ (i := 6) (N := some 33) (v := ?_) (a' := ?_) #[Y,Y,Y,Y,Y,Y,Y,U,Y,U,U] rfl rfl (any_of HT_.out (by kernel_rfl)) (fun _ _ _ h => h) (Or.inl ⟨by rfl, ?_⟩) ?_ ?_
   rotate_left
   ·intro w'
    go_simp
    with_reducible rfl
   rotate_left
   ·simp only [Act.put, sA, sZ, sS, i64_w, i32_w]
    rfl
   refine pure_ (i := 7) (N := some 34) (v := ?_) (a' := ?_) #[Y,Y,Y,Y,Y,Y,Y,Y,Y,U,U] rfl rfl (any_of HT_.out (by kernel_rfl)) (fun _ _ _ h => h) (Or.inl ⟨by rfl, ?_⟩) ?_ ?_
   rotate_left
   ·intro w'
    go_simp
    with_reducible rfl
   rotate_left
   ·simp only [Act.put, sA, sZ, sS, i64_w, i32_w]
    rfl
   exact norm_ (by simp only [putAll, Act.put, sA, sZ, sS]) (hCont (.slice Ao37 t225.length co37, .slice Ao38 t231.length co38, v238, gb241) _ ⟨hHeld, (kr HO227.out), (kr (Kd.R_mono HO233.out (fun _ hk => hk.2))), (kr (Kd.R_mono HO239.out (fun _ hk => hk.2))), (bk BK220.out), (bk BK221.out), (bk BK241.out), GW241.out, GE241.out, NB220_241.out, NB241_220.out, NB221_241.out, NB241_221.out, (bl HB.out)⟩)
 rintro ⟨v226, v232, v238, gb241⟩ w40 ⟨hS_, h0_, h1_, h2_, h3_, h4_, h5_, h6_, h7_, h8_, h9_, h10_, h11_, h12_⟩
 have n0_ : Aside0 (Kd.R (Kd.int .i64) 3 w40 w.heap.size (fun _ => True) v226 t225) := ⟨h0_⟩
 have n1_ : Aside0 (Kd.R (Kd.int .u8) 5 w40 w.heap.size (fun k_ => some k_ ≠ (v238 : Value).ownBlock) v232 t231) := ⟨h1_⟩
 have n2_ : Aside0 (Kd.R (Kd.int .u8) 5 w40 w.heap.size (fun k_ => some k_ ≠ (v232 : Value).ownBlock) v238 t237) := ⟨h2_⟩
 have n3_ : Aside0 (w40.heap[gb220]? = some (.cells #[.int .i64 a0_0, .slice A0_1 l0_1.length c0_1] 44 (0, 0))) := ⟨h3_⟩
 have n4_ : Aside0 (w40.heap[gb221]? = some (.cells #[.int .i64 a1_0, .int .i64 a1_1, .int .i64 a1_2, .slice A1_3 l1_3.length c1_3] 45 (0, 0))) := ⟨h4_⟩
 have n5_ : Aside0 (w40.heap[gb241]? = some (.cells #[.int .i64 0, .int .i64 0, .int .i64 0, .slice none 0 0] 28 (0, 0))) := ⟨h5_⟩
 have n6_ : Aside0 (w.heap.size ≤ gb241) := ⟨h6_⟩
 have n7_ : Aside0 (w.heap.size ≤ gb241) := ⟨h7_⟩
 have n8_ : Aside0 (gb220 ≠ gb241) := ⟨h8_⟩
 have n9_ : Aside0 (gb241 ≠ gb220) := ⟨h9_⟩
 have n10_ : Aside0 (gb221 ≠ gb241) := ⟨h10_⟩
 have n11_ : Aside0 (gb241 ≠ gb221) := ⟨h11_⟩
 have n12_ : Aside0 (Below w.heap.size w w40) := ⟨h12_⟩
 clear BK220 BK221 HB
 clear h0_ h1_ h2_ h3_ h4_ h5_ h6_ h7_ h8_ h9_ h10_ h11_ h12_
 have HO227 := n0_
 have HO233 := n1_
 have HO239 := n2_
 have BK220 := n3_
 have BK221 := n4_
 have BK241 := n5_
 have GW241 := n6_
 have GE241 := n7_
 have NB220_241 := n8_
 have NB241_220 := n9_
 have NB221_241 := n10_
 have NB241_221 := n11_
 have HB := n12_
 clear n0_ n1_ n2_ n3_ n4_ n5_ n6_ n7_ n8_ n9_ n10_ n11_ n12_
 have hHeld : w40.cell? ⟨gb220, 0, none⟩ = some (.int .i64 a0_0) ∧ w40.cell? ⟨gb220, 1, none⟩ = some (.slice A0_1 l0_1.length c0_1) ∧ w40.cell? ⟨gb221, 0, none⟩ = some (.int .i64 a1_0) ∧ w40.cell? ⟨gb221, 1, none⟩ = some (.int .i64 a1_1) ∧ w40.cell? ⟨gb221, 2, none⟩ = some (.int .i64 a1_2) ∧ w40.cell? ⟨gb221, 3, none⟩ = some (.slice A1_3 l1_3.length c1_3) := hS_
 obtain ⟨Ao44, co44, eo44⟩ := Kd.R_slice HO239.out
 (first | subst eo44 | (injection eo44 with f1_ f2_ f3_; have f4_ := f1_.symm; have f5_ := f3_.symm; clear f1_ f2_ f3_; subst f4_; subst f5_))
 refine norm_ (a' := ?_) ?_ ?_
 rotate_left
 ·simp only [putAll, Act.put, sA, sZ, sS]
  rfl
 refine one_ (i := 9) (N := none) #[Y,Y,Y,Y,Y,Y,Y,Y,Y,Y,U] rfl rfl (one_of HT_.out (by kernel_rfl)) (by decide) (fun K hK => ?_)
 have hs41 := cI BK241.out 0
 have hfs41 := bF BK241.out 0
 have hns41_0 := NB220_241.out
 have hns41_1 := NB221_241.out
 have hms41_0 := NB241_220.out
 have hms41_1 := NB241_221.out
 have hs42 := cI BK241.out 1
 have hfs42 := bF BK241.out 1
 have hns42_0 := NB220_241.out
 have hns42_1 := NB221_241.out
 have hms42_0 := NB241_220.out
 have hms42_1 := NB241_221.out
 have hs43 := cI BK241.out 2
 have hfs43 := bF BK241.out 2
 have hns43_0 := NB220_241.out
 have hns43_1 := NB221_241.out
 have hms43_0 := NB241_220.out
 have hms43_1 := NB241_221.out
 have hs45 := cI BK241.out 3
 have hfs45 := bF BK241.out 3
 have hns45_0 := NB220_241.out
 have hns45_1 := NB221_241.out
 have hms45_0 := NB241_220.out
 have hms45_1 := NB241_221.out
 refine skip_ (w1 := ?_) (by rfl) rfl ?_ ?_
 rotate_left
 ·go_simp
  rfl
 refine hK.out _ _ ⟨((cell_far (p := ⟨gb241, _, none⟩) NB220_241.out _).trans (((cell_far (p := ⟨gb241, _, none⟩) NB220_241.out _).trans (((cell_far (p := ⟨gb241, _, none⟩) NB220_241.out _).trans (((cell_far (p := ⟨gb241, _, none⟩) NB220_241.out _).trans (hHeld.1)))))))), ((cell_far (p := ⟨gb241, _, none⟩) NB220_241.out _).trans (((cell_far (p := ⟨gb241, _, none⟩) NB220_241.out _).trans (((cell_far (p := ⟨gb241, _, none⟩) NB220_241.out _).trans (((cell_far (p := ⟨gb241, _, none⟩) NB220_241.out _).trans (hHeld.2.1)))))))), ((cell_far (p := ⟨gb241, _, none⟩) NB221_241.out _).trans (((cell_far (p := ⟨gb241, _, none⟩) NB221_241.out _).trans (((cell_far (p := ⟨gb241, _, none⟩) NB221_241.out _).trans (((cell_far (p := ⟨gb241, _, none⟩) NB221_241.out _).trans (hHeld.2.2.1)))))))), ((cell_far (p := ⟨gb241, _, none⟩) NB221_241.out _).trans (((cell_far (p := ⟨gb241, _, none⟩) NB221_241.out _).trans (((cell_far (p := ⟨gb241, _, none⟩) NB221_241.out _).trans (((cell_far (p := ⟨gb241, _, none⟩) NB221_241.out _).trans (hHeld.2.2.2.1)))))))), ((cell_far (p := ⟨gb241, _, none⟩) NB221_241.out _).trans (((cell_far (p := ⟨gb241, _, none⟩) NB221_241.out _).trans (((cell_far (p := ⟨gb241, _, none⟩) NB221_241.out _).trans (((cell_far (p := ⟨gb241, _, none⟩) NB221_241.out _).trans (hHeld.2.2.2.2.1)))))))), ((cell_far (p := ⟨gb241, _, none⟩) NB221_241.out _).trans (((cell_far (p := ⟨gb241, _, none⟩) NB221_241.out _).trans (((cell_far (p := ⟨gb241, _, none⟩) NB221_241.out _).trans (((cell_far (p := ⟨gb241, _, none⟩) NB221_241.out _).trans (hHeld.2.2.2.2.2))))))))⟩ (fun hHeld => ?_)
 clear hK K
 refine pure_ (i := 10) (N := some 7) (v := ?_) (a' := ?_) #[Y,Y,Y,Y,Y,Y,Y,Y,Y,Y,Y] rfl rfl (any_of HT_.out (by kernel_rfl)) (fun _ _ _ h => h) (Or.inl ⟨by rfl, ?_⟩) ?_ ?_
 rotate_left
 ·intro w'
  go_simp
  with_reducible rfl
 rotate_left
 ·simp only [Act.put, sA, sZ, sS, i64_w, i32_w]
  rfl
 refine done_ (done_of HT_.out (by kernel_rfl)) ?_
 have hnb46 := NB220_241.out
 have hnc46 := NB241_220.out
 have hcz47_0 := cI BK220.out 0
 have hcz47_1 := cI BK220.out 1
 have hfz47_0 := bF BK220.out 0
 have hfz47_1 := bF BK220.out 1
 go_upto_region 12 with (first | ((with_reducible refine gate_callee (f := 32) rfl ?_); refine goesL_ (some 36) rfl rfl Try.func32 (by kernel_rfl) rfl #[.agg #[.int .i64 a0_0, .slice A0_1 l0_1.length c0_1]] rfl xR ?_; (with_reducible refine (laws_toMember.calls k a0_0 _ _ l0_1 t242 t243 _ ?side1 ?side2 A22.out).mono ?_); (case side1 => exact cB HR0_1.out (bl HB.out)); (case side2 => exact HC0_1.out); rintro e w48 ⟨v244, rfl, ho0, hb⟩; refine ⟨_, rfl, ?_⟩; have n0_ := aM (Kd.R_elder' (kr (Kd.R_mono (kF (p := ⟨gb241, 3, none⟩) (kF (p := ⟨gb241, 2, none⟩) (kF (p := ⟨gb241, 1, none⟩) (kF (p := ⟨gb241, 0, none⟩) (Kd.R_types HO227.out BK241.out (by decide)) (fun _ hk => hk.2) (.int .i64 t234)) (fun _ hk => hk.2) (.int .i64 t235)) (fun _ hk => hk.2) (.int .i64 t236)) (fun _ hk => hk.2) (.slice Ao44 t237.length co44)) (fun _ h_ => h_.1))) (Kd.R_base ho0) hb); have n1_ := aM (kB (kr (Kd.R_mono (kF (p := ⟨gb241, 3, none⟩) (kF (p := ⟨gb241, 2, none⟩) (kF (p := ⟨gb241, 1, none⟩) (kF (p := ⟨gb241, 0, none⟩) (Kd.R_types HO233.out BK241.out (by decide)) (fun _ hk => hk.2) (.int .i64 t234)) (fun _ hk => hk.2) (.int .i64 t235)) (fun _ hk => hk.2) (.int .i64 t236)) (fun _ hk => hk.2) (.slice Ao44 t237.length co44)) (fun _ h_ => h_.1))) hb); have n2_ := aM (kB (kr (Kd.R_mono (kF (p := ⟨gb241, 3, none⟩) (kF (p := ⟨gb241, 2, none⟩) (kF (p := ⟨gb241, 1, none⟩) (kF (p := ⟨gb241, 0, none⟩) (Kd.R_types HO239.out BK241.out (by decide)) (fun _ hk => hk.2) (.int .i64 t234)) (fun _ hk => hk.2) (.int .i64 t235)) (fun _ hk => hk.2) (.int .i64 t236)) (fun _ hk => hk.2) (.slice Ao44 t237.length co44)) (fun _ h_ => h_.1))) hb); have n3_ := aM (Kd.R_lower (Kd.R_new' ho0 (Kd.R_lt (kr (Kd.R_mono (kF (p := ⟨gb241, 3, none⟩) (kF (p := ⟨gb241, 2, none⟩) (kF (p := ⟨gb241, 1, none⟩) (kF (p := ⟨gb241, 0, none⟩) (Kd.R_types HO227.out BK241.out (by decide)) (fun _ hk => hk.2) (.int .i64 t234)) (fun _ hk => hk.2) (.int .i64 t235)) (fun _ hk => hk.2) (.int .i64 t236)) (fun _ hk => hk.2) (.slice Ao44 t237.length co44)) (fun _ h_ => h_.1))))) (below_size (bl HB.out))); have n4_ := aM (bB (g := gb220) (o := .cells #[.int .i64 a0_0, .slice A0_1 l0_1.length c0_1] 44 (0, 0)) (by (with_reducible repeat (first | refine blk_drewN ?_ _ | refine blk_drew ?_ | refine blk_alloc ?_ _)); refine blk_far ?_ NB220_241.out _; (with_reducible repeat (first | refine blk_drewN ?_ _ | refine blk_drew ?_ | refine blk_alloc ?_ _)); refine blk_far ?_ NB220_241.out _; (with_reducible repeat (first | refine blk_drewN ?_ _ | refine blk_drew ?_ | refine blk_alloc ?_ _)); refine blk_far ?_ NB220_241.out _; (with_reducible repeat (first | refine blk_drewN ?_ _ | refine blk_drew ?_ | refine blk_alloc ?_ _)); refine blk_far ?_ NB220_241.out _; (with_reducible repeat (first | refine blk_drewN ?_ _ | refine blk_drew ?_ | refine blk_alloc ?_ _)); exact BK220.out) hb); have n5_ := aM (bB (g := gb221) (o := .cells #[.int .i64 a1_0, .int .i64 a1_1, .int .i64 a1_2, .slice A1_3 l1_3.length c1_3] 45 (0, 0)) (by (with_reducible repeat (first | refine blk_drewN ?_ _ | refine blk_drew ?_ | refine blk_alloc ?_ _)); refine blk_far ?_ NB221_241.out _; (with_reducible repeat (first | refine blk_drewN ?_ _ | refine blk_drew ?_ | refine blk_alloc ?_ _)); refine blk_far ?_ NB221_241.out _; (with_reducible repeat (first | refine blk_drewN ?_ _ | refine blk_drew ?_ | refine blk_alloc ?_ _)); refine blk_far ?_ NB221_241.out _; (with_reducible repeat (first | refine blk_drewN ?_ _ | refine blk_drew ?_ | refine blk_alloc ?_ _)); refine blk_far ?_ NB221_241.out _; (with_reducible repeat (first | refine blk_drewN ?_ _ | refine blk_drew ?_ | refine blk_alloc ?_ _)); exact BK221.out) hb); have n6_ := aM (bB (g := gb241) (o := .cells #[.int .i64 t234, .int .i64 t235, .int .i64 t236, .slice Ao44 t237.length co44] 28 (0, 0)) (by (with_reducible repeat (first | refine blk_drewN ?_ _ | refine blk_drew ?_ | refine blk_alloc ?_ _)); refine blk_put (cs := #[.int .i64 t234, .int .i64 t235, .int .i64 t236, .slice none 0 0]) ?_ 3 _ rfl; (with_reducible repeat (first | refine blk_drewN ?_ _ | refine blk_drew ?_ | refine blk_alloc ?_ _)); refine blk_put (cs := #[.int .i64 t234, .int .i64 t235, .int .i64 0, .slice none 0 0]) ?_ 2 _ rfl; (with_reducible repeat (first | refine blk_drewN ?_ _ | refine blk_drew ?_ | refine blk_alloc ?_ _)); refine blk_put (cs := #[.int .i64 t234, .int .i64 0, .int .i64 0, .slice none 0 0]) ?_ 1 _ rfl; (with_reducible repeat (first | refine blk_drewN ?_ _ | refine blk_drew ?_ | refine blk_alloc ?_ _)); refine blk_put (cs := #[.int .i64 0, .int .i64 0, .int .i64 0, .slice none 0 0]) ?_ 0 _ rfl; (with_reducible repeat (first | refine blk_drewN ?_ _ | refine blk_drew ?_ | refine blk_alloc ?_ _)); exact BK241.out) hb); have n7_ := aM (bS (bl HB.out) hb); clear HO227 HO233; clear HO239 BK220; clear BK221 BK241 HB; have HO227 := n0_; have HO233 := n1_; have HO239 := n2_; have HO245 := n3_; have BK220 := n4_; have BK221 := n5_; have BK241 := n6_; have HB := n7_; clear n0_ n1_ n2_ n3_ n4_ n5_ n6_ n7_; (try clear hb); (try clear ho0)) | ((with_reducible refine gate_dst (N := 8) rfl ?_); refine box_event ?hg (N := 8) ?hd (cs := #[.int .i64 0, .slice none 0 0]) (t := 26) ?hr ?_; (case hd => rfl); (case hg => rfl); (case hr => first | (go_simp; done) | (go_simp; rfl) | (obtain ⟨A_, c_, e_⟩ := Kd.R_slice HO227.out; subst e_; (first | (go_simp; done) | (go_simp; rfl))) | (obtain ⟨A_, c_, e_⟩ := Kd.S_slice HO227.out; subst e_; (first | (go_simp; done) | (go_simp; rfl))) | (obtain ⟨A_, c_, e_⟩ := Kd.R_slice HO233.out; subst e_; (first | (go_simp; done) | (go_simp; rfl))) | (obtain ⟨A_, c_, e_⟩ := Kd.S_slice HO233.out; subst e_; (first | (go_simp; done) | (go_simp; rfl))) | (obtain ⟨A_, c_, e_⟩ := Kd.R_slice HO239.out; subst e_; (first | (go_simp; done) | (go_simp; rfl))) | (obtain ⟨A_, c_, e_⟩ := Kd.S_slice HO239.out; subst e_; (first | (go_simp; done) | (go_simp; rfl))) | (obtain ⟨A_, c_, e_⟩ := Kd.R_slice HO245.out; subst e_; (first | (go_simp; done) | (go_simp; rfl))) | (obtain ⟨A_, c_, e_⟩ := Kd.S_slice HO245.out; subst e_; (first | (go_simp; done) | (go_simp; rfl))) | (obtain ⟨A_, c_, e_⟩ := Kd.R_slice HO252.out; subst e_; (first | (go_simp; done) | (go_simp; rfl))) | (obtain ⟨A_, c_, e_⟩ := Kd.S_slice HO252.out; subst e_; (first | (go_simp; done) | (go_simp; rfl))) | (obtain ⟨A_, c_, e_⟩ := Kd.R_slice HO259.out; subst e_; (first | (go_simp; done) | (go_simp; rfl))) | (obtain ⟨A_, c_, e_⟩ := Kd.S_slice HO259.out; subst e_; (first | (go_simp; done) | (go_simp; rfl)))); intro gb246 hg w49 hbox hb; have n0_ := aM (kB (kr HO227.out) hb); have n1_ := aM (kB (kr HO233.out) hb); have n2_ := aM (kB (kr HO239.out) hb); have n3_ := aM (kB (kr HO245.out) hb); have n4_ := aM (bB (g := gb220) (o := .cells #[.int .i64 a0_0, .slice A0_1 l0_1.length c0_1] 44 (0, 0)) (bk BK220.out) hb); have n5_ := aM (bB (g := gb221) (o := .cells #[.int .i64 a1_0, .int .i64 a1_1, .int .i64 a1_2, .slice A1_3 l1_3.length c1_3] 45 (0, 0)) (bk BK221.out) hb); have n6_ := aM (bB (g := gb241) (o := .cells #[.int .i64 t234, .int .i64 t235, .int .i64 t236, .slice Ao44 t237.length co44] 28 (0, 0)) (bk BK241.out) hb); have n7_ := aM (bS (bl HB.out) hb); have n8_ := aM (hbox); have n9_ := aM ((by rw [hg]; exact (below_size (bl HB.out)) : w.heap.size ≤ gb246)); have n10_ := aM ((by rw [hg]; exact (below_size (bl HB.out)) : w.heap.size ≤ gb246)); have n11_ := aM ((by rw [hg]; exact Nat.ne_of_lt (blk_lt (g := gb220) (o := .cells #[.int .i64 a0_0, .slice A0_1 l0_1.length c0_1] 44 (0, 0)) (bk BK220.out)) : gb220 ≠ gb246)); have n12_ := aM ((by rw [hg]; exact Nat.ne_of_gt (blk_lt (g := gb220) (o := .cells #[.int .i64 a0_0, .slice A0_1 l0_1.length c0_1] 44 (0, 0)) (bk BK220.out)) : gb246 ≠ gb220)); have n13_ := aM ((by rw [hg]; exact Nat.ne_of_lt (blk_lt (g := gb221) (o := .cells #[.int .i64 a1_0, .int .i64 a1_1, .int .i64 a1_2, .slice A1_3 l1_3.length c1_3] 45 (0, 0)) (bk BK221.out)) : gb221 ≠ gb246)); have n14_ := aM ((by rw [hg]; exact Nat.ne_of_gt (blk_lt (g := gb221) (o := .cells #[.int .i64 a1_0, .int .i64 a1_1, .int .i64 a1_2, .slice A1_3 l1_3.length c1_3] 45 (0, 0)) (bk BK221.out)) : gb246 ≠ gb221)); have n15_ := aM ((by rw [hg]; exact Nat.ne_of_lt (blk_lt (g := gb241) (o := .cells #[.int .i64 t234, .int .i64 t235, .int .i64 t236, .slice Ao44 t237.length co44] 28 (0, 0)) (bk BK241.out)) : gb241 ≠ gb246)); have n16_ := aM ((by rw [hg]; exact Nat.ne_of_gt (blk_lt (g := gb241) (o := .cells #[.int .i64 t234, .int .i64 t235, .int .i64 t236, .slice Ao44 t237.length co44] 28 (0, 0)) (bk BK241.out)) : gb246 ≠ gb241)); clear HO227 HO233; clear HO239 HO245; clear BK220 BK221; clear BK241 HB; have HO227 := n0_; have HO233 := n1_; have HO239 := n2_; have HO245 := n3_; have BK220 := n4_; have BK221 := n5_; have BK241 := n6_; have HB := n7_; have BK246 := n8_; have GW246 := n9_; have GE246 := n10_; have NB220_246 := n11_; have NB246_220 := n12_; have NB221_246 := n13_; have NB246_221 := n14_; have NB241_246 := n15_; have NB246_241 := n16_; clear n0_ n1_ n2_ n3_ n4_ n5_ n6_ n7_ n8_ n9_ n10_ n11_ n12_ n13_ n14_ n15_ n16_; clear hb hbox hg; have hnb50 := NB246_220.out; have hnc50 := NB220_246.out; have hnb51 := NB246_221.out; have hnc51 := NB221_246.out; have hnb52 := NB246_241.out; have hnc52 := NB241_246.out; have hcz53_0 := cI BK246.out 0; have hcz53_1 := cI BK246.out 1; have hfz53_0 := bF BK246.out 0; have hfz53_1 := bF BK246.out 1; obtain ⟨Ao54, co54, eo54⟩ := Kd.R_slice HO245.out; subst eo54; have hnb55 := NB221_241.out; have hnc55 := NB241_221.out; have hcz56_0 := cI BK221.out 0; have hcz56_1 := cI BK221.out 1; have hcz56_2 := cI BK221.out 2; have hcz56_3 := cI BK221.out 3; have hfz56_0 := bF BK221.out 0; have hfz56_1 := bF BK221.out 1; have hfz56_2 := bF BK221.out 2; have hfz56_3 := bF BK221.out 3) | ((with_reducible refine gate_callee (f := 33) rfl ?_); refine goesL_ (some 38) rfl rfl Try.func33 (by kernel_rfl) rfl #[.agg #[.int .i64 a1_0, .int .i64 a1_1, .int .i64 a1_2, .slice A1_3 l1_3.length c1_3]] rfl xR ?_; (with_reducible refine (laws_toFrame.calls k a1_0 a1_1 a1_2 _ _ l1_3 t247 t248 t249 t250 _ ?side1 ?side2 A23.out).mono ?_); (case side1 => exact cB HR1_3.out (bl HB.out)); (case side2 => exact HC1_3.out); rintro e w57 ⟨v251, rfl, ho0, hb⟩; refine ⟨_, rfl, ?_⟩; have n0_ := aM (kB (kr (Kd.R_mono (kF (p := ⟨gb246, 1, none⟩) (kF (p := ⟨gb246, 0, none⟩) (Kd.R_types HO227.out BK246.out (by decide)) (fun _ hk => hk.2) (.int .i64 t242)) (fun _ hk => hk.2) (.slice Ao54 t243.length co54)) (fun _ h_ => h_.1))) hb); have n1_ := aM (Kd.R_elder' (kr (Kd.R_mono (kF (p := ⟨gb246, 1, none⟩) (kF (p := ⟨gb246, 0, none⟩) (Kd.R_types HO233.out BK246.out (by decide)) (fun _ hk => hk.2) (.int .i64 t242)) (fun _ hk => hk.2) (.slice Ao54 t243.length co54)) (fun _ h_ => h_.1))) (Kd.R_base ho0) hb); have n2_ := aM (Kd.R_elder' (kr (Kd.R_mono (kF (p := ⟨gb246, 1, none⟩) (kF (p := ⟨gb246, 0, none⟩) (Kd.R_types HO239.out BK246.out (by decide)) (fun _ hk => hk.2) (.int .i64 t242)) (fun _ hk => hk.2) (.slice Ao54 t243.length co54)) (fun _ h_ => h_.1))) (Kd.R_base ho0) hb); have n3_ := aM (kB (kr (Kd.R_mono (kF (p := ⟨gb246, 1, none⟩) (kF (p := ⟨gb246, 0, none⟩) (Kd.R_types HO245.out BK246.out (by decide)) (fun _ hk => hk.2) (.int .i64 t242)) (fun _ hk => hk.2) (.slice Ao54 t243.length co54)) (fun _ h_ => h_.1))) hb); have n4_ := aM (Kd.R_lower (Kd.R_new' (Kd.R_new' ho0 (Kd.R_lt (kr (Kd.R_mono (kF (p := ⟨gb246, 1, none⟩) (kF (p := ⟨gb246, 0, none⟩) (Kd.R_types HO233.out BK246.out (by decide)) (fun _ hk => hk.2) (.int .i64 t242)) (fun _ hk => hk.2) (.slice Ao54 t243.length co54)) (fun _ h_ => h_.1))))) (Kd.R_lt (kr (Kd.R_mono (kF (p := ⟨gb246, 1, none⟩) (kF (p := ⟨gb246, 0, none⟩) (Kd.R_types HO239.out BK246.out (by decide)) (fun _ hk => hk.2) (.int .i64 t242)) (fun _ hk => hk.2) (.slice Ao54 t243.length co54)) (fun _ h_ => h_.1))))) (below_size (bl HB.out))); have n5_ := aM (bB (g := gb220) (o := .cells #[.int .i64 a0_0, .slice A0_1 l0_1.length c0_1] 44 (0, 0)) (by (with_reducible repeat (first | refine blk_drewN ?_ _ | refine blk_drew ?_ | refine blk_alloc ?_ _)); refine blk_far ?_ NB220_246.out _; (with_reducible repeat (first | refine blk_drewN ?_ _ | refine blk_drew ?_ | refine blk_alloc ?_ _)); refine blk_far ?_ NB220_246.out _; (with_reducible repeat (first | refine blk_drewN ?_ _ | refine blk_drew ?_ | refine blk_alloc ?_ _)); exact BK220.out) hb); have n6_ := aM (bB (g := gb221) (o := .cells #[.int .i64 a1_0, .int .i64 a1_1, .int .i64 a1_2, .slice A1_3 l1_3.length c1_3] 45 (0, 0)) (by (with_reducible repeat (first | refine blk_drewN ?_ _ | refine blk_drew ?_ | refine blk_alloc ?_ _)); refine blk_far ?_ NB221_246.out _; (with_reducible repeat (first | refine blk_drewN ?_ _ | refine blk_drew ?_ | refine blk_alloc ?_ _)); refine blk_far ?_ NB221_246.out _; (with_reducible repeat (first | refine blk_drewN ?_ _ | refine blk_drew ?_ | refine blk_alloc ?_ _)); exact BK221.out) hb); have n7_ := aM (bB (g := gb241) (o := .cells #[.int .i64 t234, .int .i64 t235, .int .i64 t236, .slice Ao44 t237.length co44] 28 (0, 0)) (by (with_reducible repeat (first | refine blk_drewN ?_ _ | refine blk_drew ?_ | refine blk_alloc ?_ _)); refine blk_far ?_ NB241_246.out _; (with_reducible repeat (first | refine blk_drewN ?_ _ | refine blk_drew ?_ | refine blk_alloc ?_ _)); refine blk_far ?_ NB241_246.out _; (with_reducible repeat (first | refine blk_drewN ?_ _ | refine blk_drew ?_ | refine blk_alloc ?_ _)); exact BK241.out) hb); have n8_ := aM (bB (g := gb246) (o := .cells #[.int .i64 t242, .slice Ao54 t243.length co54] 26 (0, 0)) (by (with_reducible repeat (first | refine blk_drewN ?_ _ | refine blk_drew ?_ | refine blk_alloc ?_ _)); refine blk_put (cs := #[.int .i64 t242, .slice none 0 0]) ?_ 1 _ rfl; (with_reducible repeat (first | refine blk_drewN ?_ _ | refine blk_drew ?_ | refine blk_alloc ?_ _)); refine blk_put (cs := #[.int .i64 0, .slice none 0 0]) ?_ 0 _ rfl; (with_reducible repeat (first | refine blk_drewN ?_ _ | refine blk_drew ?_ | refine blk_alloc ?_ _)); exact BK246.out) hb); have n9_ := aM (bS (bl HB.out) hb); clear HO227 HO233; clear HO239 HO245; clear BK220 BK221; clear BK241 BK246 HB; have HO227 := n0_; have HO233 := n1_; have HO239 := n2_; have HO245 := n3_; have HO252 := n4_; have BK220 := n5_; have BK221 := n6_; have BK241 := n7_; have BK246 := n8_; have HB := n9_; clear n0_ n1_ n2_ n3_ n4_ n5_ n6_ n7_ n8_ n9_; (try clear hb); (try clear ho0)) | ((with_reducible refine gate_dst (N := 9) rfl ?_); refine box_event ?hg (N := 9) ?hd (cs := #[.int .i64 0, .int .i64 0, .int .i64 0, .slice none 0 0]) (t := 28) ?hr ?_; (case hd => rfl); (case hg => rfl); (case hr => first | (go_simp; done) | (go_simp; rfl) | (obtain ⟨A_, c_, e_⟩ := Kd.R_slice HO227.out; subst e_; (first | (go_simp; done) | (go_simp; rfl))) | (obtain ⟨A_, c_, e_⟩ := Kd.S_slice HO227.out; subst e_; (first | (go_simp; done) | (go_simp; rfl))) | (obtain ⟨A_, c_, e_⟩ := Kd.R_slice HO233.out; subst e_; (first | (go_simp; done) | (go_simp; rfl))) | (obtain ⟨A_, c_, e_⟩ := Kd.S_slice HO233.out; subst e_; (first | (go_simp; done) | (go_simp; rfl))) | (obtain ⟨A_, c_, e_⟩ := Kd.R_slice HO239.out; subst e_; (first | (go_simp; done) | (go_simp; rfl))) | (obtain ⟨A_, c_, e_⟩ := Kd.S_slice HO239.out; subst e_; (first | (go_simp; done) | (go_simp; rfl))) | (obtain ⟨A_, c_, e_⟩ := Kd.R_slice HO245.out; subst e_; (first | (go_simp; done) | (go_simp; rfl))) | (obtain ⟨A_, c_, e_⟩ := Kd.S_slice HO245.out; subst e_; (first | (go_simp; done) | (go_simp; rfl))) | (obtain ⟨A_, c_, e_⟩ := Kd.R_slice HO252.out; subst e_; (first | (go_simp; done) | (go_simp; rfl))) | (obtain ⟨A_, c_, e_⟩ := Kd.S_slice HO252.out; subst e_; (first | (go_simp; done) | (go_simp; rfl))) | (obtain ⟨A_, c_, e_⟩ := Kd.R_slice HO259.out; subst e_; (first | (go_simp; done) | (go_simp; rfl))) | (obtain ⟨A_, c_, e_⟩ := Kd.S_slice HO259.out; subst e_; (first | (go_simp; done) | (go_simp; rfl)))); intro gb253 hg w58 hbox hb; have n0_ := aM (kB (kr HO227.out) hb); have n1_ := aM (kB (kr HO233.out) hb); have n2_ := aM (kB (kr HO239.out) hb); have n3_ := aM (kB (kr HO245.out) hb); have n4_ := aM (kB (kr HO252.out) hb); have n5_ := aM (bB (g := gb220) (o := .cells #[.int .i64 a0_0, .slice A0_1 l0_1.length c0_1] 44 (0, 0)) (bk BK220.out) hb); have n6_ := aM (bB (g := gb221) (o := .cells #[.int .i64 a1_0, .int .i64 a1_1, .int .i64 a1_2, .slice A1_3 l1_3.length c1_3] 45 (0, 0)) (bk BK221.out) hb); have n7_ := aM (bB (g := gb241) (o := .cells #[.int .i64 t234, .int .i64 t235, .int .i64 t236, .slice Ao44 t237.length co44] 28 (0, 0)) (bk BK241.out) hb); have n8_ := aM (bB (g := gb246) (o := .cells #[.int .i64 t242, .slice Ao54 t243.length co54] 26 (0, 0)) (bk BK246.out) hb); have n9_ := aM (bS (bl HB.out) hb); have n10_ := aM (hbox); have n11_ := aM ((by rw [hg]; exact (below_size (bl HB.out)) : w.heap.size ≤ gb253)); have n12_ := aM ((by rw [hg]; exact (below_size (bl HB.out)) : w.heap.size ≤ gb253)); have n13_ := aM ((by rw [hg]; exact Nat.ne_of_lt (blk_lt (g := gb220) (o := .cells #[.int .i64 a0_0, .slice A0_1 l0_1.length c0_1] 44 (0, 0)) (bk BK220.out)) : gb220 ≠ gb253)); have n14_ := aM ((by rw [hg]; exact Nat.ne_of_gt (blk_lt (g := gb220) (o := .cells #[.int .i64 a0_0, .slice A0_1 l0_1.length c0_1] 44 (0, 0)) (bk BK220.out)) : gb253 ≠ gb220)); have n15_ := aM ((by rw [hg]; exact Nat.ne_of_lt (blk_lt (g := gb221) (o := .cells #[.int .i64 a1_0, .int .i64 a1_1, .int .i64 a1_2, .slice A1_3 l1_3.length c1_3] 45 (0, 0)) (bk BK221.out)) : gb221 ≠ gb253)); have n16_ := aM ((by rw [hg]; exact Nat.ne_of_gt (blk_lt (g := gb221) (o := .cells #[.int .i64 a1_0, .int .i64 a1_1, .int .i64 a1_2, .slice A1_3 l1_3.length c1_3] 45 (0, 0)) (bk BK221.out)) : gb253 ≠ gb221)); have n17_ := aM ((by rw [hg]; exact Nat.ne_of_lt (blk_lt (g := gb241) (o := .cells #[.int .i64 t234, .int .i64 t235, .int .i64 t236, .slice Ao44 t237.length co44] 28 (0, 0)) (bk BK241.out)) : gb241 ≠ gb253)); have n18_ := aM ((by rw [hg]; exact Nat.ne_of_gt (blk_lt (g := gb241) (o := .cells #[.int .i64 t234, .int .i64 t235, .int .i64 t236, .slice Ao44 t237.length co44] 28 (0, 0)) (bk BK241.out)) : gb253 ≠ gb241)); have n19_ := aM ((by rw [hg]; exact Nat.ne_of_lt (blk_lt (g := gb246) (o := .cells #[.int .i64 t242, .slice Ao54 t243.length co54] 26 (0, 0)) (bk BK246.out)) : gb246 ≠ gb253)); have n20_ := aM ((by rw [hg]; exact Nat.ne_of_gt (blk_lt (g := gb246) (o := .cells #[.int .i64 t242, .slice Ao54 t243.length co54] 26 (0, 0)) (bk BK246.out)) : gb253 ≠ gb246)); clear HO227 HO233; clear HO239 HO245; clear HO252 BK220; clear BK221 BK241; clear BK246 HB; have HO227 := n0_; have HO233 := n1_; have HO239 := n2_; have HO245 := n3_; have HO252 := n4_; have BK220 := n5_; have BK221 := n6_; have BK241 := n7_; have BK246 := n8_; have HB := n9_; have BK253 := n10_; have GW253 := n11_; have GE253 := n12_; have NB220_253 := n13_; have NB253_220 := n14_; have NB221_253 := n15_; have NB253_221 := n16_; have NB241_253 := n17_; have NB253_241 := n18_; have NB246_253 := n19_; have NB253_246 := n20_; clear n0_ n1_ n2_ n3_ n4_ n5_ n6_ n7_ n8_ n9_ n10_ n11_ n12_ n13_ n14_ n15_ n16_ n17_ n18_ n19_ n20_; clear hb hbox hg; have hnb59 := NB253_220.out; have hnc59 := NB220_253.out; have hnb60 := NB253_221.out; have hnc60 := NB221_253.out; have hnb61 := NB253_241.out; have hnc61 := NB241_253.out; have hnb62 := NB253_246.out; have hnc62 := NB246_253.out; have hcz63_0 := cI BK253.out 0; have hcz63_1 := cI BK253.out 1; have hcz63_2 := cI BK253.out 2; have hcz63_3 := cI BK253.out 3; have hfz63_0 := bF BK253.out 0; have hfz63_1 := bF BK253.out 1; have hfz63_2 := bF BK253.out 2; have hfz63_3 := bF BK253.out 3; obtain ⟨Ao64, co64, eo64⟩ := Kd.R_slice HO252.out; subst eo64; have hcz65_0 := cI BK246.out 0; have hcz65_1 := cI BK246.out 1; have hfz65_0 := bF BK246.out 0; have hfz65_1 := bF BK246.out 1) | ((with_reducible refine gate_callee (f := 17) rfl ?_); refine goesL_ (some 42) rfl rfl Try.func17 (by kernel_rfl) rfl #[.agg #[.int .i64 t242, .slice Ao54 t243.length co54], .agg #[.int .i64 t247, .int .i64 t248, .int .i64 t249, .slice Ao64 t250.length co64]] rfl xR ?_; (with_reducible refine (impl_Inside.calls k t242 _ _ t243 t247 t248 t249 _ _ t250 t254 t255 t256 t257 t260 _ ?side1 ?side2 ?side3 ?side4 A24.out).mono ?_); (case side1 => refine (Kd.R_reads' (e := 3) (base := w.heap.size) (ok := fun k_ => (True ∧ some k_ ≠ (v226 : Value).ownBlock)) (n := t243.length) (c := co54) ?_).2.2; exact (kr (Kd.R_mono (kF (p := ⟨gb253, 3, none⟩) (kF (p := ⟨gb253, 2, none⟩) (kF (p := ⟨gb253, 1, none⟩) (kF (p := ⟨gb253, 0, none⟩) (Kd.R_types HO245.out BK253.out (by decide)) (fun _ hk => hk.2) (.int .i64 t247)) (fun _ hk => hk.2) (.int .i64 t248)) (fun _ hk => hk.2) (.int .i64 t249)) (fun _ hk => hk.2) (.slice Ao64 t250.length co64)) (fun _ h_ => h_.1)))); (case side2 => exact (Kd.R_reads' HO245.out).2.1); (case side3 => refine (Kd.R_reads' (e := 5) (base := w.heap.size) (ok := fun k_ => ((True ∧ some k_ ≠ (v232 : Value).ownBlock) ∧ some k_ ≠ (.slice Ao44 t237.length co44 : Value).ownBlock)) (n := t250.length) (c := co64) ?_).2.2; exact (kr (Kd.R_mono (kF (p := ⟨gb253, 3, none⟩) (kF (p := ⟨gb253, 2, none⟩) (kF (p := ⟨gb253, 1, none⟩) (kF (p := ⟨gb253, 0, none⟩) (Kd.R_types HO252.out BK253.out (by decide)) (fun _ hk => hk.2) (.int .i64 t247)) (fun _ hk => hk.2) (.int .i64 t248)) (fun _ hk => hk.2) (.int .i64 t249)) (fun _ hk => hk.2) (.slice Ao64 t250.length co64)) (fun _ h_ => h_.1)))); (case side4 => exact (Kd.R_reads' HO252.out).2.1); rintro e w66 ⟨v258, rfl, ho0, hb⟩; refine ⟨_, rfl, ?_⟩; have n0_ := aM (kB (kr (Kd.R_mono (kF (p := ⟨gb253, 3, none⟩) (kF (p := ⟨gb253, 2, none⟩) (kF (p := ⟨gb253, 1, none⟩) (kF (p := ⟨gb253, 0, none⟩) (Kd.R_types HO227.out BK253.out (by decide)) (fun _ hk => hk.2) (.int .i64 t247)) (fun _ hk => hk.2) (.int .i64 t248)) (fun _ hk => hk.2) (.int .i64 t249)) (fun _ hk => hk.2) (.slice Ao64 t250.length co64)) (fun _ h_ => h_.1))) hb); have n1_ := aM (Kd.R_elder' (kr (Kd.R_mono (kF (p := ⟨gb253, 3, none⟩) (kF (p := ⟨gb253, 2, none⟩) (kF (p := ⟨gb253, 1, none⟩) (kF (p := ⟨gb253, 0, none⟩) (Kd.R_types HO233.out BK253.out (by decide)) (fun _ hk => hk.2) (.int .i64 t247)) (fun _ hk => hk.2) (.int .i64 t248)) (fun _ hk => hk.2) (.int .i64 t249)) (fun _ hk => hk.2) (.slice Ao64 t250.length co64)) (fun _ h_ => h_.1))) (Kd.R_base ho0) hb); have n2_ := aM (Kd.R_elder' (kr (Kd.R_mono (kF (p := ⟨gb253, 3, none⟩) (kF (p := ⟨gb253, 2, none⟩) (kF (p := ⟨gb253, 1, none⟩) (kF (p := ⟨gb253, 0, none⟩) (Kd.R_types HO239.out BK253.out (by decide)) (fun _ hk => hk.2) (.int .i64 t247)) (fun _ hk => hk.2) (.int .i64 t248)) (fun _ hk => hk.2) (.int .i64 t249)) (fun _ hk => hk.2) (.slice Ao64 t250.length co64)) (fun _ h_ => h_.1))) (Kd.R_base ho0) hb); have n3_ := aM (kB (kr (Kd.R_mono (kF (p := ⟨gb253, 3, none⟩) (kF (p := ⟨gb253, 2, none⟩) (kF (p := ⟨gb253, 1, none⟩) (kF (p := ⟨gb253, 0, none⟩) (Kd.R_types HO245.out BK253.out (by decide)) (fun _ hk => hk.2) (.int .i64 t247)) (fun _ hk => hk.2) (.int .i64 t248)) (fun _ hk => hk.2) (.int .i64 t249)) (fun _ hk => hk.2) (.slice Ao64 t250.length co64)) (fun _ h_ => h_.1))) hb); have n4_ := aM (Kd.R_elder' (kr (Kd.R_mono (kF (p := ⟨gb253, 3, none⟩) (kF (p := ⟨gb253, 2, none⟩) (kF (p := ⟨gb253, 1, none⟩) (kF (p := ⟨gb253, 0, none⟩) (Kd.R_types HO252.out BK253.out (by decide)) (fun _ hk => hk.2) (.int .i64 t247)) (fun _ hk => hk.2) (.int .i64 t248)) (fun _ hk => hk.2) (.int .i64 t249)) (fun _ hk => hk.2) (.slice Ao64 t250.length co64)) (fun _ h_ => h_.1))) (Kd.R_base ho0) hb); have n5_ := aM (Kd.R_lower (Kd.R_new' (Kd.R_new' (Kd.R_new' ho0 (Kd.R_lt (kr (Kd.R_mono (kF (p := ⟨gb253, 3, none⟩) (kF (p := ⟨gb253, 2, none⟩) (kF (p := ⟨gb253, 1, none⟩) (kF (p := ⟨gb253, 0, none⟩) (Kd.R_types HO233.out BK253.out (by decide)) (fun _ hk => hk.2) (.int .i64 t247)) (fun _ hk => hk.2) (.int .i64 t248)) (fun _ hk => hk.2) (.int .i64 t249)) (fun _ hk => hk.2) (.slice Ao64 t250.length co64)) (fun _ h_ => h_.1))))) (Kd.R_lt (kr (Kd.R_mono (kF (p := ⟨gb253, 3, none⟩) (kF (p := ⟨gb253, 2, none⟩) (kF (p := ⟨gb253, 1, none⟩) (kF (p := ⟨gb253, 0, none⟩) (Kd.R_types HO239.out BK253.out (by decide)) (fun _ hk => hk.2) (.int .i64 t247)) (fun _ hk => hk.2) (.int .i64 t248)) (fun _ hk => hk.2) (.int .i64 t249)) (fun _ hk => hk.2) (.slice Ao64 t250.length co64)) (fun _ h_ => h_.1))))) (Kd.R_lt (kr (Kd.R_mono (kF (p := ⟨gb253, 3, none⟩) (kF (p := ⟨gb253, 2, none⟩) (kF (p := ⟨gb253, 1, none⟩) (kF (p := ⟨gb253, 0, none⟩) (Kd.R_types HO252.out BK253.out (by decide)) (fun _ hk => hk.2) (.int .i64 t247)) (fun _ hk => hk.2) (.int .i64 t248)) (fun _ hk => hk.2) (.int .i64 t249)) (fun _ hk => hk.2) (.slice Ao64 t250.length co64)) (fun _ h_ => h_.1))))) (below_size (bl HB.out))); have n6_ := aM (bB (g := gb220) (o := .cells #[.int .i64 a0_0, .slice A0_1 l0_1.length c0_1] 44 (0, 0)) (by (with_reducible repeat (first | refine blk_drewN ?_ _ | refine blk_drew ?_ | refine blk_alloc ?_ _)); refine blk_far ?_ NB220_253.out _; (with_reducible repeat (first | refine blk_drewN ?_ _ | refine blk_drew ?_ | refine blk_alloc ?_ _)); refine blk_far ?_ NB220_253.out _; (with_reducible repeat (first | refine blk_drewN ?_ _ | refine blk_drew ?_ | refine blk_alloc ?_ _)); refine blk_far ?_ NB220_253.out _; (with_reducible repeat (first | refine blk_drewN ?_ _ | refine blk_drew ?_ | refine blk_alloc ?_ _)); refine blk_far ?_ NB220_253.out _; (with_reducible repeat (first | refine blk_drewN ?_ _ | refine blk_drew ?_ | refine blk_alloc ?_ _)); exact BK220.out) hb); have n7_ := aM (bB (g := gb221) (o := .cells #[.int .i64 a1_0, .int .i64 a1_1, .int .i64 a1_2, .slice A1_3 l1_3.length c1_3] 45 (0, 0)) (by (with_reducible repeat (first | refine blk_drewN ?_ _ | refine blk_drew ?_ | refine blk_alloc ?_ _)); refine blk_far ?_ NB221_253.out _; (with_reducible repeat (first | refine blk_drewN ?_ _ | refine blk_drew ?_ | refine blk_alloc ?_ _)); refine blk_far ?_ NB221_253.out _; (with_reducible repeat (first | refine blk_drewN ?_ _ | refine blk_drew ?_ | refine blk_alloc ?_ _)); refine blk_far ?_ NB221_253.out _; (with_reducible repeat (first | refine blk_drewN ?_ _ | refine blk_drew ?_ | refine blk_alloc ?_ _)); refine blk_far ?_ NB221_253.out _; (with_reducible repeat (first | refine blk_drewN ?_ _ | refine blk_drew ?_ | refine blk_alloc ?_ _)); exact BK221.out) hb); have n8_ := aM (bB (g := gb241) (o := .cells #[.int .i64 t234, .int .i64 t235, .int .i64 t236, .slice Ao44 t237.length co44] 28 (0, 0)) (by (with_reducible repeat (first | refine blk_drewN ?_ _ | refine blk_drew ?_ | refine blk_alloc ?_ _)); refine blk_far ?_ NB241_253.out _; (with_reducible repeat (first | refine blk_drewN ?_ _ | refine blk_drew ?_ | refine blk_alloc ?_ _)); refine blk_far ?_ NB241_253.out _; (with_reducible repeat (first | refine blk_drewN ?_ _ | refine blk_drew ?_ | refine blk_alloc ?_ _)); refine blk_far ?_ NB241_253.out _; (with_reducible repeat (first | refine blk_drewN ?_ _ | refine blk_drew ?_ | refine blk_alloc ?_ _)); refine blk_far ?_ NB241_253.out _; (with_reducible repeat (first | refine blk_drewN ?_ _ | refine blk_drew ?_ | refine blk_alloc ?_ _)); exact BK241.out) hb); have n9_ := aM (bB (g := gb246) (o := .cells #[.int .i64 t242, .slice Ao54 t243.length co54] 26 (0, 0)) (by (with_reducible repeat (first | refine blk_drewN ?_ _ | refine blk_drew ?_ | refine blk_alloc ?_ _)); refine blk_far ?_ NB246_253.out _; (with_reducible repeat (first | refine blk_drewN ?_ _ | refine blk_drew ?_ | refine blk_alloc ?_ _)); refine blk_far ?_ NB246_253.out _; (with_reducible repeat (first | refine blk_drewN ?_ _ | refine blk_drew ?_ | refine blk_alloc ?_ _)); refine blk_far ?_ NB246_253.out _; (with_reducible repeat (first | refine blk_drewN ?_ _ | refine blk_drew ?_ | refine blk_alloc ?_ _)); refine blk_far ?_ NB246_253.out _; (with_reducible repeat (first | refine blk_drewN ?_ _ | refine blk_drew ?_ | refine blk_alloc ?_ _)); exact BK246.out) hb); have n10_ := aM (bB (g := gb253) (o := .cells #[.int .i64 t247, .int .i64 t248, .int .i64 t249, .slice Ao64 t250.length co64] 28 (0, 0)) (by (with_reducible repeat (first | refine blk_drewN ?_ _ | refine blk_drew ?_ | refine blk_alloc ?_ _)); refine blk_put (cs := #[.int .i64 t247, .int .i64 t248, .int .i64 t249, .slice none 0 0]) ?_ 3 _ rfl; (with_reducible repeat (first | refine blk_drewN ?_ _ | refine blk_drew ?_ | refine blk_alloc ?_ _)); refine blk_put (cs := #[.int .i64 t247, .int .i64 t248, .int .i64 0, .slice none 0 0]) ?_ 2 _ rfl; (with_reducible repeat (first | refine blk_drewN ?_ _ | refine blk_drew ?_ | refine blk_alloc ?_ _)); refine blk_put (cs := #[.int .i64 t247, .int .i64 0, .int .i64 0, .slice none 0 0]) ?_ 1 _ rfl; (with_reducible repeat (first | refine blk_drewN ?_ _ | refine blk_drew ?_ | refine blk_alloc ?_ _)); refine blk_put (cs := #[.int .i64 0, .int .i64 0, .int .i64 0, .slice none 0 0]) ?_ 0 _ rfl; (with_reducible repeat (first | refine blk_drewN ?_ _ | refine blk_drew ?_ | refine blk_alloc ?_ _)); exact BK253.out) hb); have n11_ := aM (bS (bl HB.out) hb); clear HO227 HO233; clear HO239 HO245; clear HO252 BK220; clear BK221 BK241; clear BK246 BK253 HB; have HO227 := n0_; have HO233 := n1_; have HO239 := n2_; have HO245 := n3_; have HO252 := n4_; have HO259 := n5_; have BK220 := n6_; have BK221 := n7_; have BK241 := n8_; have BK246 := n9_; have BK253 := n10_; have HB := n11_; clear n0_ n1_ n2_ n3_ n4_ n5_ n6_ n7_ n8_ n9_ n10_ n11_; (try clear hb); (try clear ho0)) | ((with_reducible refine gate_dst (N := 10) rfl ?_); refine box_event ?hg (N := 10) ?hd (cs := #[.int .i64 0, .int .i64 0, .int .i64 0, .slice none 0 0]) (t := 28) ?hr ?_; (case hd => rfl); (case hg => rfl); (case hr => first | (go_simp; done) | (go_simp; rfl) | (obtain ⟨A_, c_, e_⟩ := Kd.R_slice HO227.out; subst e_; (first | (go_simp; done) | (go_simp; rfl))) | (obtain ⟨A_, c_, e_⟩ := Kd.S_slice HO227.out; subst e_; (first | (go_simp; done) | (go_simp; rfl))) | (obtain ⟨A_, c_, e_⟩ := Kd.R_slice HO233.out; subst e_; (first | (go_simp; done) | (go_simp; rfl))) | (obtain ⟨A_, c_, e_⟩ := Kd.S_slice HO233.out; subst e_; (first | (go_simp; done) | (go_simp; rfl))) | (obtain ⟨A_, c_, e_⟩ := Kd.R_slice HO239.out; subst e_; (first | (go_simp; done) | (go_simp; rfl))) | (obtain ⟨A_, c_, e_⟩ := Kd.S_slice HO239.out; subst e_; (first | (go_simp; done) | (go_simp; rfl))) | (obtain ⟨A_, c_, e_⟩ := Kd.R_slice HO245.out; subst e_; (first | (go_simp; done) | (go_simp; rfl))) | (obtain ⟨A_, c_, e_⟩ := Kd.S_slice HO245.out; subst e_; (first | (go_simp; done) | (go_simp; rfl))) | (obtain ⟨A_, c_, e_⟩ := Kd.R_slice HO252.out; subst e_; (first | (go_simp; done) | (go_simp; rfl))) | (obtain ⟨A_, c_, e_⟩ := Kd.S_slice HO252.out; subst e_; (first | (go_simp; done) | (go_simp; rfl))) | (obtain ⟨A_, c_, e_⟩ := Kd.R_slice HO259.out; subst e_; (first | (go_simp; done) | (go_simp; rfl))) | (obtain ⟨A_, c_, e_⟩ := Kd.S_slice HO259.out; subst e_; (first | (go_simp; done) | (go_simp; rfl)))); intro gb261 hg w67 hbox hb; have n0_ := aM (kB (kr HO227.out) hb); have n1_ := aM (kB (kr HO233.out) hb); have n2_ := aM (kB (kr HO239.out) hb); have n3_ := aM (kB (kr HO245.out) hb); have n4_ := aM (kB (kr HO252.out) hb); have n5_ := aM (kB (kr HO259.out) hb); have n6_ := aM (bB (g := gb220) (o := .cells #[.int .i64 a0_0, .slice A0_1 l0_1.length c0_1] 44 (0, 0)) (bk BK220.out) hb); have n7_ := aM (bB (g := gb221) (o := .cells #[.int .i64 a1_0, .int .i64 a1_1, .int .i64 a1_2, .slice A1_3 l1_3.length c1_3] 45 (0, 0)) (bk BK221.out) hb); have n8_ := aM (bB (g := gb241) (o := .cells #[.int .i64 t234, .int .i64 t235, .int .i64 t236, .slice Ao44 t237.length co44] 28 (0, 0)) (bk BK241.out) hb); have n9_ := aM (bB (g := gb246) (o := .cells #[.int .i64 t242, .slice Ao54 t243.length co54] 26 (0, 0)) (bk BK246.out) hb); have n10_ := aM (bB (g := gb253) (o := .cells #[.int .i64 t247, .int .i64 t248, .int .i64 t249, .slice Ao64 t250.length co64] 28 (0, 0)) (bk BK253.out) hb); have n11_ := aM (bS (bl HB.out) hb); have n12_ := aM (hbox); have n13_ := aM ((by rw [hg]; exact (below_size (bl HB.out)) : w.heap.size ≤ gb261)); have n14_ := aM ((by rw [hg]; exact (below_size (bl HB.out)) : w.heap.size ≤ gb261)); have n15_ := aM ((by rw [hg]; exact Nat.ne_of_lt (blk_lt (g := gb220) (o := .cells #[.int .i64 a0_0, .slice A0_1 l0_1.length c0_1] 44 (0, 0)) (bk BK220.out)) : gb220 ≠ gb261)); have n16_ := aM ((by rw [hg]; exact Nat.ne_of_gt (blk_lt (g := gb220) (o := .cells #[.int .i64 a0_0, .slice A0_1 l0_1.length c0_1] 44 (0, 0)) (bk BK220.out)) : gb261 ≠ gb220)); have n17_ := aM ((by rw [hg]; exact Nat.ne_of_lt (blk_lt (g := gb221) (o := .cells #[.int .i64 a1_0, .int .i64 a1_1, .int .i64 a1_2, .slice A1_3 l1_3.length c1_3] 45 (0, 0)) (bk BK221.out)) : gb221 ≠ gb261)); have n18_ := aM ((by rw [hg]; exact Nat.ne_of_gt (blk_lt (g := gb221) (o := .cells #[.int .i64 a1_0, .int .i64 a1_1, .int .i64 a1_2, .slice A1_3 l1_3.length c1_3] 45 (0, 0)) (bk BK221.out)) : gb261 ≠ gb221)); have n19_ := aM ((by rw [hg]; exact Nat.ne_of_lt (blk_lt (g := gb241) (o := .cells #[.int .i64 t234, .int .i64 t235, .int .i64 t236, .slice Ao44 t237.length co44] 28 (0, 0)) (bk BK241.out)) : gb241 ≠ gb261)); have n20_ := aM ((by rw [hg]; exact Nat.ne_of_gt (blk_lt (g := gb241) (o := .cells #[.int .i64 t234, .int .i64 t235, .int .i64 t236, .slice Ao44 t237.length co44] 28 (0, 0)) (bk BK241.out)) : gb261 ≠ gb241)); have n21_ := aM ((by rw [hg]; exact Nat.ne_of_lt (blk_lt (g := gb246) (o := .cells #[.int .i64 t242, .slice Ao54 t243.length co54] 26 (0, 0)) (bk BK246.out)) : gb246 ≠ gb261)); have n22_ := aM ((by rw [hg]; exact Nat.ne_of_gt (blk_lt (g := gb246) (o := .cells #[.int .i64 t242, .slice Ao54 t243.length co54] 26 (0, 0)) (bk BK246.out)) : gb261 ≠ gb246)); have n23_ := aM ((by rw [hg]; exact Nat.ne_of_lt (blk_lt (g := gb253) (o := .cells #[.int .i64 t247, .int .i64 t248, .int .i64 t249, .slice Ao64 t250.length co64] 28 (0, 0)) (bk BK253.out)) : gb253 ≠ gb261)); have n24_ := aM ((by rw [hg]; exact Nat.ne_of_gt (blk_lt (g := gb253) (o := .cells #[.int .i64 t247, .int .i64 t248, .int .i64 t249, .slice Ao64 t250.length co64] 28 (0, 0)) (bk BK253.out)) : gb261 ≠ gb253)); clear HO227 HO233; clear HO239 HO245; clear HO252 HO259; clear BK220 BK221; clear BK241 BK246; clear BK253 HB; have HO227 := n0_; have HO233 := n1_; have HO239 := n2_; have HO245 := n3_; have HO252 := n4_; have HO259 := n5_; have BK220 := n6_; have BK221 := n7_; have BK241 := n8_; have BK246 := n9_; have BK253 := n10_; have HB := n11_; have BK261 := n12_; have GW261 := n13_; have GE261 := n14_; have NB220_261 := n15_; have NB261_220 := n16_; have NB221_261 := n17_; have NB261_221 := n18_; have NB241_261 := n19_; have NB261_241 := n20_; have NB246_261 := n21_; have NB261_246 := n22_; have NB253_261 := n23_; have NB261_253 := n24_; clear n0_ n1_ n2_ n3_ n4_ n5_ n6_ n7_ n8_ n9_ n10_ n11_ n12_ n13_ n14_ n15_ n16_ n17_ n18_ n19_ n20_ n21_ n22_ n23_ n24_; clear hb hbox hg; have hnb68 := NB261_220.out; have hnc68 := NB220_261.out; have hnb69 := NB261_221.out; have hnc69 := NB221_261.out; have hnb70 := NB261_241.out; have hnc70 := NB241_261.out; have hnb71 := NB261_246.out; have hnc71 := NB246_261.out; have hnb72 := NB261_253.out; have hnc72 := NB253_261.out; have hcz73_0 := cI BK261.out 0; have hcz73_1 := cI BK261.out 1; have hcz73_2 := cI BK261.out 2; have hcz73_3 := cI BK261.out 3; have hfz73_0 := bF BK261.out 0; have hfz73_1 := bF BK261.out 1; have hfz73_2 := bF BK261.out 2; have hfz73_3 := bF BK261.out 3; obtain ⟨Ao74, co74, eo74⟩ := Kd.R_slice HO259.out; subst eo74))
 (try simp only [Act.put, sA, sZ, sS])
 go_cut [53] (fun v53 wc => ∃ (kq : Nat) (x53_24 : Bool), v53 = .bool x53_24 ∧ Aside0 (laws_FnExactInside.j0 kq t240 t260 x53_24 a0_0 l0_1 a1_0 a1_1 a1_2 l1_3 t234 t235 t236 t237 t242 t243 t247 t248 t249 t250 t254 t255 t256 t257 = some true) ∧ Aside0 (kq ≤ k) ∧ Aside0 (Kd.R (Kd.int .u8) 5 wc w.heap.size (fun k_ => some k_ ≠ ((.slice Ao64 t250.length co64) : Value).ownBlock ∧ some k_ ≠ ((.slice Ao74 t257.length co74) : Value).ownBlock) (.slice Ao44 t237.length co44) t237) ∧ Aside0 (Kd.R (Kd.int .i64) 3 wc w.heap.size (fun _ => True) (.slice Ao54 t243.length co54) t243) ∧ Aside0 (Kd.R (Kd.int .u8) 5 wc w.heap.size (fun k_ => some k_ ≠ ((.slice Ao44 t237.length co44) : Value).ownBlock ∧ some k_ ≠ ((.slice Ao74 t257.length co74) : Value).ownBlock) (.slice Ao64 t250.length co64) t250) ∧ Aside0 (Kd.R (Kd.int .u8) 5 wc w.heap.size (fun k_ => some k_ ≠ ((.slice Ao44 t237.length co44) : Value).ownBlock ∧ some k_ ≠ ((.slice Ao64 t250.length co64) : Value).ownBlock) (.slice Ao74 t257.length co74) t257) ∧ Aside0 (wc.heap[gb220]? = some (.cells #[.int .i64 a0_0, (.slice A0_1 l0_1.length c0_1)] 44 (0, 0))) ∧ Aside0 (wc.heap[gb221]? = some (.cells #[.int .i64 a1_0, .int .i64 a1_1, .int .i64 a1_2, (.slice A1_3 l1_3.length c1_3)] 45 (0, 0))) ∧ Aside0 (wc.heap[gb241]? = some (.cells #[.int .i64 t234, .int .i64 t235, .int .i64 t236, (.slice Ao44 t237.length co44)] 28 (0, 0))) ∧ Aside0 (wc.heap[gb246]? = some (.cells #[.int .i64 t242, (.slice Ao54 t243.length co54)] 26 (0, 0))) ∧ Aside0 (wc.heap[gb253]? = some (.cells #[.int .i64 t247, .int .i64 t248, .int .i64 t249, (.slice Ao64 t250.length co64)] 28 (0, 0))) ∧ Aside0 (wc.heap[gb261]? = some (.cells #[.int .i64 t254, .int .i64 t255, .int .i64 t256, (.slice Ao74 t257.length co74)] 28 (0, 0))) ∧ Aside0 (Below w.heap.size w wc))
 case first =>
  have H := HC25.out
  clear HC25
  replace H := Option.bind_eq_some_iff.mp H
  obtain ⟨t262, A750, H⟩ := H
  replace H : (if t262 = true then (laws_FnExactInside.j0 k t240 t260 (t260 != t240) a0_0 l0_1 a1_0 a1_1 a1_2 l1_3 t234 t235 t236 t237 t242 t243 t247 t248 t249 t250 t254 t255 t256 t257) else (laws_FnExactInside.j0 k t240 t260 true a0_0 l0_1 a1_0 a1_1 a1_2 l1_3 t234 t235 t236 t237 t242 t243 t247 t248 t249 t250 t254 t255 t256 t257)) = some true := H
  have A75 := aM A750
  clear A750
  by_cases c76 : t262 = true
  case neg =>
   replace c76 := Bool.eq_false_iff.mpr c76
   subst c76
   have H1 : (laws_FnExactInside.j0 k t240 t260 true a0_0 l0_1 a1_0 a1_1 a1_2 l1_3 t234 t235 t236 t237 t242 t243 t247 t248 t249 t250 t254 t255 t256 t257) = some true := by first | (rw [if_neg (show ¬ (false = true) by decide)] at H; exact H) | (rw [if_neg (show ¬ (false = true) by decide)] at H)
   clear H
   have H := H1
   clear H1
   exact absurd H (by cases k <;> (simp only [laws_FnExactInside.j0, if_true]) <;> decide)
  subst c76
  have H1 : (laws_FnExactInside.j0 k t240 t260 (t260 != t240) a0_0 l0_1 a1_0 a1_1 a1_2 l1_3 t234 t235 t236 t237 t242 t243 t247 t248 t249 t250 t254 t255 t256 t257) = some true := by first | (rw [if_pos rfl] at H; exact H) | (rw [if_pos rfl] at H)
  clear H
  have H := H1
  clear H1
  have H' := aM H
  clear H
  have hnb77 := NB261_220.out
  have hnc77 := NB220_261.out
  have hnb78 := NB261_221.out
  have hnc78 := NB221_261.out
  have hnb79 := NB261_241.out
  have hnc79 := NB241_261.out
  have hnb80 := NB261_246.out
  have hnc80 := NB246_261.out
  have hnb81 := NB261_253.out
  have hnc81 := NB253_261.out
  have hcz82_0 := cI BK261.out 0
  have hcz82_1 := cI BK261.out 1
  have hcz82_2 := cI BK261.out 2
  have hcz82_3 := cI BK261.out 3
  have hfz82_0 := bF BK261.out 0
  have hfz82_1 := bF BK261.out 1
  have hfz82_2 := bF BK261.out 2
  have hfz82_3 := bF BK261.out 3
  have hnb83 := NB241_220.out
  have hnc83 := NB220_241.out
  have hnb84 := NB241_221.out
  have hnc84 := NB221_241.out
  have hnb85 := NB241_246.out
  have hnc85 := NB246_241.out
  have hnb86 := NB241_253.out
  have hnc86 := NB253_241.out
  have hcz87_0 := cI BK241.out 0
  have hcz87_1 := cI BK241.out 1
  have hcz87_2 := cI BK241.out 2
  have hcz87_3 := cI BK241.out 3
  have hfz87_0 := bF BK241.out 0
  have hfz87_1 := bF BK241.out 1
  have hfz87_2 := bF BK241.out 2
  have hfz87_3 := bF BK241.out 3
  go_wp2_with (first | ((with_reducible refine gate_callee (f := 34) rfl ?_); refine goesL_ (some 47) rfl rfl Try.func34 (by kernel_rfl) rfl #[.agg #[.int .i64 t254, .int .i64 t255, .int .i64 t256, .slice Ao74 t257.length co74], .agg #[.int .i64 t234, .int .i64 t235, .int .i64 t236, .slice Ao44 t237.length co44]] rfl xR ?_; (with_reducible refine (laws_eqFrame.calls k t254 t255 t256 _ _ t257 t234 t235 t236 _ _ t237 true _ ?side1 ?side2 ?side3 ?side4 A75.out).mono ?_); (case side1 => refine (Kd.R_reads' (e := 5) (base := w.heap.size) (ok := fun k_ => (((True ∧ some k_ ≠ (v232 : Value).ownBlock) ∧ some k_ ≠ (.slice Ao44 t237.length co44 : Value).ownBlock) ∧ some k_ ≠ (.slice Ao64 t250.length co64 : Value).ownBlock)) (n := t257.length) (c := co74) ?_).2.2; exact (kr (Kd.R_mono (kF (p := ⟨gb261, 3, none⟩) (kF (p := ⟨gb261, 2, none⟩) (kF (p := ⟨gb261, 1, none⟩) (kF (p := ⟨gb261, 0, none⟩) (Kd.R_types HO259.out BK261.out (by decide)) (fun _ hk => hk.2) (.int .i64 t254)) (fun _ hk => hk.2) (.int .i64 t255)) (fun _ hk => hk.2) (.int .i64 t256)) (fun _ hk => hk.2) (.slice Ao74 t257.length co74)) (fun _ h_ => h_.1)))); (case side2 => exact (Kd.R_reads' HO259.out).2.1); (case side3 => refine (Kd.R_reads' (e := 5) (base := w.heap.size) (ok := fun k_ => ((some k_ ≠ (v232 : Value).ownBlock ∧ some k_ ≠ (.slice Ao64 t250.length co64 : Value).ownBlock) ∧ some k_ ≠ (.slice Ao74 t257.length co74 : Value).ownBlock)) (n := t237.length) (c := co44) ?_).2.2; exact (kr (Kd.R_mono (kF (p := ⟨gb261, 3, none⟩) (kF (p := ⟨gb261, 2, none⟩) (kF (p := ⟨gb261, 1, none⟩) (kF (p := ⟨gb261, 0, none⟩) (Kd.R_types HO239.out BK261.out (by decide)) (fun _ hk => hk.2) (.int .i64 t254)) (fun _ hk => hk.2) (.int .i64 t255)) (fun _ hk => hk.2) (.int .i64 t256)) (fun _ hk => hk.2) (.slice Ao74 t257.length co74)) (fun _ h_ => h_.1)))); (case side4 => exact (Kd.R_reads' HO239.out).2.1); rintro e w88 ⟨rfl, hb⟩; refine ⟨_, rfl, ?_⟩; have n0_ := aM (kB (kr (Kd.R_mono (kF (p := ⟨gb261, 3, none⟩) (kF (p := ⟨gb261, 2, none⟩) (kF (p := ⟨gb261, 1, none⟩) (kF (p := ⟨gb261, 0, none⟩) (Kd.R_types HO227.out BK261.out (by decide)) (fun _ hk => hk.2) (.int .i64 t254)) (fun _ hk => hk.2) (.int .i64 t255)) (fun _ hk => hk.2) (.int .i64 t256)) (fun _ hk => hk.2) (.slice Ao74 t257.length co74)) (fun _ h_ => h_.1))) hb); have n1_ := aM (kB (kr (Kd.R_mono (kF (p := ⟨gb261, 3, none⟩) (kF (p := ⟨gb261, 2, none⟩) (kF (p := ⟨gb261, 1, none⟩) (kF (p := ⟨gb261, 0, none⟩) (Kd.R_types HO233.out BK261.out (by decide)) (fun _ hk => hk.2) (.int .i64 t254)) (fun _ hk => hk.2) (.int .i64 t255)) (fun _ hk => hk.2) (.int .i64 t256)) (fun _ hk => hk.2) (.slice Ao74 t257.length co74)) (fun _ h_ => h_.1))) hb); have n2_ := aM (kB (kr (Kd.R_mono (kF (p := ⟨gb261, 3, none⟩) (kF (p := ⟨gb261, 2, none⟩) (kF (p := ⟨gb261, 1, none⟩) (kF (p := ⟨gb261, 0, none⟩) (Kd.R_types HO239.out BK261.out (by decide)) (fun _ hk => hk.2) (.int .i64 t254)) (fun _ hk => hk.2) (.int .i64 t255)) (fun _ hk => hk.2) (.int .i64 t256)) (fun _ hk => hk.2) (.slice Ao74 t257.length co74)) (fun _ h_ => h_.1))) hb); have n3_ := aM (kB (kr (Kd.R_mono (kF (p := ⟨gb261, 3, none⟩) (kF (p := ⟨gb261, 2, none⟩) (kF (p := ⟨gb261, 1, none⟩) (kF (p := ⟨gb261, 0, none⟩) (Kd.R_types HO245.out BK261.out (by decide)) (fun _ hk => hk.2) (.int .i64 t254)) (fun _ hk => hk.2) (.int .i64 t255)) (fun _ hk => hk.2) (.int .i64 t256)) (fun _ hk => hk.2) (.slice Ao74 t257.length co74)) (fun _ h_ => h_.1))) hb); have n4_ := aM (kB (kr (Kd.R_mono (kF (p := ⟨gb261, 3, none⟩) (kF (p := ⟨gb261, 2, none⟩) (kF (p := ⟨gb261, 1, none⟩) (kF (p := ⟨gb261, 0, none⟩) (Kd.R_types HO252.out BK261.out (by decide)) (fun _ hk => hk.2) (.int .i64 t254)) (fun _ hk => hk.2) (.int .i64 t255)) (fun _ hk => hk.2) (.int .i64 t256)) (fun _ hk => hk.2) (.slice Ao74 t257.length co74)) (fun _ h_ => h_.1))) hb); have n5_ := aM (kB (kr (Kd.R_mono (kF (p := ⟨gb261, 3, none⟩) (kF (p := ⟨gb261, 2, none⟩) (kF (p := ⟨gb261, 1, none⟩) (kF (p := ⟨gb261, 0, none⟩) (Kd.R_types HO259.out BK261.out (by decide)) (fun _ hk => hk.2) (.int .i64 t254)) (fun _ hk => hk.2) (.int .i64 t255)) (fun _ hk => hk.2) (.int .i64 t256)) (fun _ hk => hk.2) (.slice Ao74 t257.length co74)) (fun _ h_ => h_.1))) hb); have n6_ := aM (bB (g := gb220) (o := .cells #[.int .i64 a0_0, .slice A0_1 l0_1.length c0_1] 44 (0, 0)) (by (with_reducible repeat (first | refine blk_drewN ?_ _ | refine blk_drew ?_ | refine blk_alloc ?_ _)); refine blk_far ?_ NB220_261.out _; (with_reducible repeat (first | refine blk_drewN ?_ _ | refine blk_drew ?_ | refine blk_alloc ?_ _)); refine blk_far ?_ NB220_261.out _; (with_reducible repeat (first | refine blk_drewN ?_ _ | refine blk_drew ?_ | refine blk_alloc ?_ _)); refine blk_far ?_ NB220_261.out _; (with_reducible repeat (first | refine blk_drewN ?_ _ | refine blk_drew ?_ | refine blk_alloc ?_ _)); refine blk_far ?_ NB220_261.out _; (with_reducible repeat (first | refine blk_drewN ?_ _ | refine blk_drew ?_ | refine blk_alloc ?_ _)); exact BK220.out) hb); have n7_ := aM (bB (g := gb221) (o := .cells #[.int .i64 a1_0, .int .i64 a1_1, .int .i64 a1_2, .slice A1_3 l1_3.length c1_3] 45 (0, 0)) (by (with_reducible repeat (first | refine blk_drewN ?_ _ | refine blk_drew ?_ | refine blk_alloc ?_ _)); refine blk_far ?_ NB221_261.out _; (with_reducible repeat (first | refine blk_drewN ?_ _ | refine blk_drew ?_ | refine blk_alloc ?_ _)); refine blk_far ?_ NB221_261.out _; (with_reducible repeat (first | refine blk_drewN ?_ _ | refine blk_drew ?_ | refine blk_alloc ?_ _)); refine blk_far ?_ NB221_261.out _; (with_reducible repeat (first | refine blk_drewN ?_ _ | refine blk_drew ?_ | refine blk_alloc ?_ _)); refine blk_far ?_ NB221_261.out _; (with_reducible repeat (first | refine blk_drewN ?_ _ | refine blk_drew ?_ | refine blk_alloc ?_ _)); exact BK221.out) hb); have n8_ := aM (bB (g := gb241) (o := .cells #[.int .i64 t234, .int .i64 t235, .int .i64 t236, .slice Ao44 t237.length co44] 28 (0, 0)) (by (with_reducible repeat (first | refine blk_drewN ?_ _ | refine blk_drew ?_ | refine blk_alloc ?_ _)); refine blk_far ?_ NB241_261.out _; (with_reducible repeat (first | refine blk_drewN ?_ _ | refine blk_drew ?_ | refine blk_alloc ?_ _)); refine blk_far ?_ NB241_261.out _; (with_reducible repeat (first | refine blk_drewN ?_ _ | refine blk_drew ?_ | refine blk_alloc ?_ _)); refine blk_far ?_ NB241_261.out _; (with_reducible repeat (first | refine blk_drewN ?_ _ | refine blk_drew ?_ | refine blk_alloc ?_ _)); refine blk_far ?_ NB241_261.out _; (with_reducible repeat (first | refine blk_drewN ?_ _ | refine blk_drew ?_ | refine blk_alloc ?_ _)); exact BK241.out) hb); have n9_ := aM (bB (g := gb246) (o := .cells #[.int .i64 t242, .slice Ao54 t243.length co54] 26 (0, 0)) (by (with_reducible repeat (first | refine blk_drewN ?_ _ | refine blk_drew ?_ | refine blk_alloc ?_ _)); refine blk_far ?_ NB246_261.out _; (with_reducible repeat (first | refine blk_drewN ?_ _ | refine blk_drew ?_ | refine blk_alloc ?_ _)); refine blk_far ?_ NB246_261.out _; (with_reducible repeat (first | refine blk_drewN ?_ _ | refine blk_drew ?_ | refine blk_alloc ?_ _)); refine blk_far ?_ NB246_261.out _; (with_reducible repeat (first | refine blk_drewN ?_ _ | refine blk_drew ?_ | refine blk_alloc ?_ _)); refine blk_far ?_ NB246_261.out _; (with_reducible repeat (first | refine blk_drewN ?_ _ | refine blk_drew ?_ | refine blk_alloc ?_ _)); exact BK246.out) hb); have n10_ := aM (bB (g := gb253) (o := .cells #[.int .i64 t247, .int .i64 t248, .int .i64 t249, .slice Ao64 t250.length co64] 28 (0, 0)) (by (with_reducible repeat (first | refine blk_drewN ?_ _ | refine blk_drew ?_ | refine blk_alloc ?_ _)); refine blk_far ?_ NB253_261.out _; (with_reducible repeat (first | refine blk_drewN ?_ _ | refine blk_drew ?_ | refine blk_alloc ?_ _)); refine blk_far ?_ NB253_261.out _; (with_reducible repeat (first | refine blk_drewN ?_ _ | refine blk_drew ?_ | refine blk_alloc ?_ _)); refine blk_far ?_ NB253_261.out _; (with_reducible repeat (first | refine blk_drewN ?_ _ | refine blk_drew ?_ | refine blk_alloc ?_ _)); refine blk_far ?_ NB253_261.out _; (with_reducible repeat (first | refine blk_drewN ?_ _ | refine blk_drew ?_ | refine blk_alloc ?_ _)); exact BK253.out) hb); have n11_ := aM (bB (g := gb261) (o := .cells #[.int .i64 t254, .int .i64 t255, .int .i64 t256, .slice Ao74 t257.length co74] 28 (0, 0)) (by (with_reducible repeat (first | refine blk_drewN ?_ _ | refine blk_drew ?_ | refine blk_alloc ?_ _)); refine blk_put (cs := #[.int .i64 t254, .int .i64 t255, .int .i64 t256, .slice none 0 0]) ?_ 3 _ rfl; (with_reducible repeat (first | refine blk_drewN ?_ _ | refine blk_drew ?_ | refine blk_alloc ?_ _)); refine blk_put (cs := #[.int .i64 t254, .int .i64 t255, .int .i64 0, .slice none 0 0]) ?_ 2 _ rfl; (with_reducible repeat (first | refine blk_drewN ?_ _ | refine blk_drew ?_ | refine blk_alloc ?_ _)); refine blk_put (cs := #[.int .i64 t254, .int .i64 0, .int .i64 0, .slice none 0 0]) ?_ 1 _ rfl; (with_reducible repeat (first | refine blk_drewN ?_ _ | refine blk_drew ?_ | refine blk_alloc ?_ _)); refine blk_put (cs := #[.int .i64 0, .int .i64 0, .int .i64 0, .slice none 0 0]) ?_ 0 _ rfl; (with_reducible repeat (first | refine blk_drewN ?_ _ | refine blk_drew ?_ | refine blk_alloc ?_ _)); exact BK261.out) hb); have n12_ := aM (bS (bl HB.out) hb); clear HO227 HO233; clear HO239 HO245; clear HO252 HO259; clear BK220 BK221; clear BK241 BK246; clear BK253 BK261 HB; have HO227 := n0_; have HO233 := n1_; have HO239 := n2_; have HO245 := n3_; have HO252 := n4_; have HO259 := n5_; have BK220 := n6_; have BK221 := n7_; have BK241 := n8_; have BK246 := n9_; have BK253 := n10_; have BK261 := n11_; have HB := n12_; clear n0_ n1_ n2_ n3_ n4_ n5_ n6_ n7_ n8_ n9_ n10_ n11_ n12_; (try clear hb)))
  go_meet
  case rel => exact ⟨_, ((t260 != t240)), xE, H', ⟨by first | omega | exact Nat.le_refl _⟩, ⟨kr (Kd.R_mono HO239.out (fun _ hk => ⟨hk.1.2, hk.2⟩))⟩, ⟨kr (Kd.R_mono HO245.out (fun _ hk => trivial))⟩, ⟨kr (Kd.R_mono HO252.out (fun _ hk => ⟨hk.1.2, hk.2⟩))⟩, ⟨kr (Kd.R_mono HO259.out (fun _ hk => ⟨hk.1.2, hk.2⟩))⟩, ⟨by (with_reducible repeat (first | refine blk_drewN ?_ _ | refine blk_drew ?_ | refine blk_alloc ?_ _)); exact BK220.out⟩, ⟨by (with_reducible repeat (first | refine blk_drewN ?_ _ | refine blk_drew ?_ | refine blk_alloc ?_ _)); exact BK221.out⟩, ⟨by (with_reducible repeat (first | refine blk_drewN ?_ _ | refine blk_drew ?_ | refine blk_alloc ?_ _)); exact BK241.out⟩, ⟨by (with_reducible repeat (first | refine blk_drewN ?_ _ | refine blk_drew ?_ | refine blk_alloc ?_ _)); exact BK246.out⟩, ⟨by (with_reducible repeat (first | refine blk_drewN ?_ _ | refine blk_drew ?_ | refine blk_alloc ?_ _)); exact BK253.out⟩, ⟨by (with_reducible repeat (first | refine blk_drewN ?_ _ | refine blk_drew ?_ | refine blk_alloc ?_ _)); exact BK261.out⟩, ⟨bl HB.out⟩⟩
 case rest =>
  clear HC25
  try clear c1
  try clear p2
  try clear c3
  try clear c4
  try clear c5
  try clear c6
  try clear c7
  try clear c8
  try clear c9
  try clear c17
  try clear c18
  try clear c32
  try clear c33
  try clear c34
  try clear c46
  try clear c50
  try clear c51
  try clear c52
  try clear c55
  try clear c59
  try clear c60
  try clear c61
  try clear c62
  try clear c68
  try clear c69
  try clear c70
  try clear c71
  try clear c72
  try clear c76
  try clear c77
  try clear c78
  try clear c79
  try clear c80
  try clear c81
  try clear c83
  try clear c84
  try clear c85
  try clear c86
  try clear c89
  try clear c90
  try clear c91
  try clear c92
  try clear c93
  try clear c95
  try clear c96
  try clear c97
  try clear c98
  try clear hcz47_0
  try clear hcz47_1
  try clear hcz53_0
  try clear hcz53_1
  try clear hcz56_0
  try clear hcz56_1
  try clear hcz56_2
  try clear hcz56_3
  try clear hcz63_0
  try clear hcz63_1
  try clear hcz63_2
  try clear hcz63_3
  try clear hcz65_0
  try clear hcz65_1
  try clear hcz73_0
  try clear hcz73_1
  try clear hcz73_2
  try clear hcz73_3
  try clear hcz82_0
  try clear hcz82_1
  try clear hcz82_2
  try clear hcz82_3
  try clear hcz87_0
  try clear hcz87_1
  try clear hcz87_2
  try clear hcz87_3
  try clear hcz94_0
  try clear hcz94_1
  try clear hcz94_2
  try clear hcz94_3
  try clear hcz99_0
  try clear hcz99_1
  try clear hcz99_2
  try clear hcz99_3
  try clear hfz47_0
  try clear hfz47_1
  try clear hfz53_0
  try clear hfz53_1
  try clear hfz56_0
  try clear hfz56_1
  try clear hfz56_2
  try clear hfz56_3
  try clear hfz63_0
  try clear hfz63_1
  try clear hfz63_2
  try clear hfz63_3
  try clear hfz65_0
  try clear hfz65_1
  try clear hfz73_0
  try clear hfz73_1
  try clear hfz73_2
  try clear hfz73_3
  try clear hfz82_0
  try clear hfz82_1
  try clear hfz82_2
  try clear hfz82_3
  try clear hfz87_0
  try clear hfz87_1
  try clear hfz87_2
  try clear hfz87_3
  try clear hfz94_0
  try clear hfz94_1
  try clear hfz94_2
  try clear hfz94_3
  try clear hfz99_0
  try clear hfz99_1
  try clear hfz99_2
  try clear hfz99_3
  obtain ⟨kq, x53_24, rfl, HA, HJ24, HO_242003, HO_247001, HO_254003, HO_262003, BK220, BK221, BK241, BK246, BK253, BK261, HB⟩ := hcut
  cases kq with
  | zero => exact absurd HA.out (by simp [laws_FnExactInside.j0])
  | succ kj24 =>
   have H := HA.out
   clear HA
   simp only [laws_FnExactInside.j0] at H
   by_cases c101 : x53_24 = true
   case pos =>
    subst c101
    have H1 : (some false) = some true := by first | (rw [if_pos rfl] at H; exact H) | (rw [if_pos rfl] at H)
    clear H
    have H := H1
    clear H1
    exact absurd (Option.some.inj H) (by decide)
   replace c101 := Bool.eq_false_iff.mpr c101
   subst c101
   have H1 : ((laws_toMember.f kj24 a0_0 l0_1).bind fun bt263 => ((laws_eqMember.f kj24 t242 t243 bt263.1 bt263.2).bind fun t267 => (if t267 = true then ((laws_toFrame.f kj24 a1_0 a1_1 a1_2 l1_3).bind fun bt268 => ((laws_eqFrame.f kj24 t247 t248 t249 t250 bt268.1 bt268.2.1 bt268.2.2.1 bt268.2.2.2).bind fun t274 => (if t274 = true then ((laws_markMember.f kj24 t242 t243 1).bind fun bt275 => ((laws_markFrame.f kj24 t247 t248 t249 t250 bt275.1).bind fun bt277 => (if bt277.1 < 0 then (laws_FnExactInside.j1 kj24 t240 true a0_0 l0_1 a1_0 a1_1 a1_2 l1_3 t234 t235 t236 t237 t254 t255 t256 t257) else ((laws_eqFrame.f kj24 t254 t255 t256 t257 t234 t235 t236 t237).bind fun t279 => (if t279 = true then (laws_FnExactInside.j1 kj24 t240 (t260 != t240) a0_0 l0_1 a1_0 a1_1 a1_2 l1_3 t234 t235 t236 t237 t254 t255 t256 t257) else (laws_FnExactInside.j1 kj24 t240 true a0_0 l0_1 a1_0 a1_1 a1_2 l1_3 t234 t235 t236 t237 t254 t255 t256 t257)))))) else (some false)))) else (some false)))) = some true := by first | (rw [if_neg (show ¬ (false = true) by decide)] at H; exact H) | (rw [if_neg (show ¬ (false = true) by decide)] at H)
   clear H
   have H := H1
   clear H1
   replace H := Option.bind_eq_some_iff.mp H
   obtain ⟨⟨t263, t264⟩, A1020, H⟩ := H
   replace H : ((laws_eqMember.f kj24 t242 t243 t263 t264).bind fun t267 => (if t267 = true then ((laws_toFrame.f kj24 a1_0 a1_1 a1_2 l1_3).bind fun bt268 => ((laws_eqFrame.f kj24 t247 t248 t249 t250 bt268.1 bt268.2.1 bt268.2.2.1 bt268.2.2.2).bind fun t274 => (if t274 = true then ((laws_markMember.f kj24 t242 t243 1).bind fun bt275 => ((laws_markFrame.f kj24 t247 t248 t249 t250 bt275.1).bind fun bt277 => (if bt277.1 < 0 then (laws_FnExactInside.j1 kj24 t240 true a0_0 l0_1 a1_0 a1_1 a1_2 l1_3 t234 t235 t236 t237 t254 t255 t256 t257) else ((laws_eqFrame.f kj24 t254 t255 t256 t257 t234 t235 t236 t237).bind fun t279 => (if t279 = true then (laws_FnExactInside.j1 kj24 t240 (t260 != t240) a0_0 l0_1 a1_0 a1_1 a1_2 l1_3 t234 t235 t236 t237 t254 t255 t256 t257) else (laws_FnExactInside.j1 kj24 t240 true a0_0 l0_1 a1_0 a1_1 a1_2 l1_3 t234 t235 t236 t237 t254 t255 t256 t257)))))) else (some false)))) else (some false))) = some true := H
   have A102 := aM A1020
   clear A1020
   replace H := Option.bind_eq_some_iff.mp H
   obtain ⟨t267, A1030, H⟩ := H
   replace H : (if t267 = true then ((laws_toFrame.f kj24 a1_0 a1_1 a1_2 l1_3).bind fun bt268 => ((laws_eqFrame.f kj24 t247 t248 t249 t250 bt268.1 bt268.2.1 bt268.2.2.1 bt268.2.2.2).bind fun t274 => (if t274 = true then ((laws_markMember.f kj24 t242 t243 1).bind fun bt275 => ((laws_markFrame.f kj24 t247 t248 t249 t250 bt275.1).bind fun bt277 => (if bt277.1 < 0 then (laws_FnExactInside.j1 kj24 t240 true a0_0 l0_1 a1_0 a1_1 a1_2 l1_3 t234 t235 t236 t237 t254 t255 t256 t257) else ((laws_eqFrame.f kj24 t254 t255 t256 t257 t234 t235 t236 t237).bind fun t279 => (if t279 = true then (laws_FnExactInside.j1 kj24 t240 (t260 != t240) a0_0 l0_1 a1_0 a1_1 a1_2 l1_3 t234 t235 t236 t237 t254 t255 t256 t257) else (laws_FnExactInside.j1 kj24 t240 true a0_0 l0_1 a1_0 a1_1 a1_2 l1_3 t234 t235 t236 t237 t254 t255 t256 t257)))))) else (some false)))) else (some false)) = some true := H
   have A103 := aM A1030
   clear A1030
   by_cases c104 : t267 = true
   case neg =>
    replace c104 := Bool.eq_false_iff.mpr c104
    subst c104
    have H1 : (some false) = some true := by first | (rw [if_neg (show ¬ (false = true) by decide)] at H; exact H) | (rw [if_neg (show ¬ (false = true) by decide)] at H)
    clear H
    have H := H1
    clear H1
    exact absurd (Option.some.inj H) (by decide)
   subst c104
   have H1 : ((laws_toFrame.f kj24 a1_0 a1_1 a1_2 l1_3).bind fun bt268 => ((laws_eqFrame.f kj24 t247 t248 t249 t250 bt268.1 bt268.2.1 bt268.2.2.1 bt268.2.2.2).bind fun t274 => (if t274 = true then ((laws_markMember.f kj24 t242 t243 1).bind fun bt275 => ((laws_markFrame.f kj24 t247 t248 t249 t250 bt275.1).bind fun bt277 => (if bt277.1 < 0 then (laws_FnExactInside.j1 kj24 t240 true a0_0 l0_1 a1_0 a1_1 a1_2 l1_3 t234 t235 t236 t237 t254 t255 t256 t257) else ((laws_eqFrame.f kj24 t254 t255 t256 t257 t234 t235 t236 t237).bind fun t279 => (if t279 = true then (laws_FnExactInside.j1 kj24 t240 (t260 != t240) a0_0 l0_1 a1_0 a1_1 a1_2 l1_3 t234 t235 t236 t237 t254 t255 t256 t257) else (laws_FnExactInside.j1 kj24 t240 true a0_0 l0_1 a1_0 a1_1 a1_2 l1_3 t234 t235 t236 t237 t254 t255 t256 t257)))))) else (some false)))) = some true := by first | (rw [if_pos rfl] at H; exact H) | (rw [if_pos rfl] at H)
   clear H
   have H := H1
   clear H1
   replace H := Option.bind_eq_some_iff.mp H
   obtain ⟨⟨t268, t269, t270, t271⟩, A1050, H⟩ := H
   replace H : ((laws_eqFrame.f kj24 t247 t248 t249 t250 t268 t269 t270 t271).bind fun t274 => (if t274 = true then ((laws_markMember.f kj24 t242 t243 1).bind fun bt275 => ((laws_markFrame.f kj24 t247 t248 t249 t250 bt275.1).bind fun bt277 => (if bt277.1 < 0 then (laws_FnExactInside.j1 kj24 t240 true a0_0 l0_1 a1_0 a1_1 a1_2 l1_3 t234 t235 t236 t237 t254 t255 t256 t257) else ((laws_eqFrame.f kj24 t254 t255 t256 t257 t234 t235 t236 t237).bind fun t279 => (if t279 = true then (laws_FnExactInside.j1 kj24 t240 (t260 != t240) a0_0 l0_1 a1_0 a1_1 a1_2 l1_3 t234 t235 t236 t237 t254 t255 t256 t257) else (laws_FnExactInside.j1 kj24 t240 true a0_0 l0_1 a1_0 a1_1 a1_2 l1_3 t234 t235 t236 t237 t254 t255 t256 t257)))))) else (some false))) = some true := H
   have A105 := aM A1050
   clear A1050
   replace H := Option.bind_eq_some_iff.mp H
   obtain ⟨t274, A1060, H⟩ := H
   replace H : (if t274 = true then ((laws_markMember.f kj24 t242 t243 1).bind fun bt275 => ((laws_markFrame.f kj24 t247 t248 t249 t250 bt275.1).bind fun bt277 => (if bt277.1 < 0 then (laws_FnExactInside.j1 kj24 t240 true a0_0 l0_1 a1_0 a1_1 a1_2 l1_3 t234 t235 t236 t237 t254 t255 t256 t257) else ((laws_eqFrame.f kj24 t254 t255 t256 t257 t234 t235 t236 t237).bind fun t279 => (if t279 = true then (laws_FnExactInside.j1 kj24 t240 (t260 != t240) a0_0 l0_1 a1_0 a1_1 a1_2 l1_3 t234 t235 t236 t237 t254 t255 t256 t257) else (laws_FnExactInside.j1 kj24 t240 true a0_0 l0_1 a1_0 a1_1 a1_2 l1_3 t234 t235 t236 t237 t254 t255 t256 t257)))))) else (some false)) = some true := H
   have A106 := aM A1060
   clear A1060
   by_cases c107 : t274 = true
   case neg =>
    replace c107 := Bool.eq_false_iff.mpr c107
    subst c107
    have H1 : (some false) = some true := by first | (rw [if_neg (show ¬ (false = true) by decide)] at H; exact H) | (rw [if_neg (show ¬ (false = true) by decide)] at H)
    clear H
    have H := H1
    clear H1
    exact absurd (Option.some.inj H) (by decide)
   subst c107
   have H1 : ((laws_markMember.f kj24 t242 t243 1).bind fun bt275 => ((laws_markFrame.f kj24 t247 t248 t249 t250 bt275.1).bind fun bt277 => (if bt277.1 < 0 then (laws_FnExactInside.j1 kj24 t240 true a0_0 l0_1 a1_0 a1_1 a1_2 l1_3 t234 t235 t236 t237 t254 t255 t256 t257) else ((laws_eqFrame.f kj24 t254 t255 t256 t257 t234 t235 t236 t237).bind fun t279 => (if t279 = true then (laws_FnExactInside.j1 kj24 t240 (t260 != t240) a0_0 l0_1 a1_0 a1_1 a1_2 l1_3 t234 t235 t236 t237 t254 t255 t256 t257) else (laws_FnExactInside.j1 kj24 t240 true a0_0 l0_1 a1_0 a1_1 a1_2 l1_3 t234 t235 t236 t237 t254 t255 t256 t257)))))) = some true := by first | (rw [if_pos rfl] at H; exact H) | (rw [if_pos rfl] at H)
   clear H
   have H := H1
   clear H1
   replace H := Option.bind_eq_some_iff.mp H
   obtain ⟨⟨t275, t276⟩, A1080, H⟩ := H
   replace H : ((laws_markFrame.f kj24 t247 t248 t249 t250 t275).bind fun bt277 => (if bt277.1 < 0 then (laws_FnExactInside.j1 kj24 t240 true a0_0 l0_1 a1_0 a1_1 a1_2 l1_3 t234 t235 t236 t237 t254 t255 t256 t257) else ((laws_eqFrame.f kj24 t254 t255 t256 t257 t234 t235 t236 t237).bind fun t279 => (if t279 = true then (laws_FnExactInside.j1 kj24 t240 (t260 != t240) a0_0 l0_1 a1_0 a1_1 a1_2 l1_3 t234 t235 t236 t237 t254 t255 t256 t257) else (laws_FnExactInside.j1 kj24 t240 true a0_0 l0_1 a1_0 a1_1 a1_2 l1_3 t234 t235 t236 t237 t254 t255 t256 t257))))) = some true := H
   have A108 := aM A1080
   clear A1080
   replace H := Option.bind_eq_some_iff.mp H
   obtain ⟨⟨t277, t278⟩, A1090, H⟩ := H
   replace H : (if t277 < 0 then (laws_FnExactInside.j1 kj24 t240 true a0_0 l0_1 a1_0 a1_1 a1_2 l1_3 t234 t235 t236 t237 t254 t255 t256 t257) else ((laws_eqFrame.f kj24 t254 t255 t256 t257 t234 t235 t236 t237).bind fun t279 => (if t279 = true then (laws_FnExactInside.j1 kj24 t240 (t260 != t240) a0_0 l0_1 a1_0 a1_1 a1_2 l1_3 t234 t235 t236 t237 t254 t255 t256 t257) else (laws_FnExactInside.j1 kj24 t240 true a0_0 l0_1 a1_0 a1_1 a1_2 l1_3 t234 t235 t236 t237 t254 t255 t256 t257)))) = some true := H
   have A109 := aM A1090
   clear A1090
   have HC110 := aM H
   clear H
   try go_wp2
   have n0_ := aM (Kd.R_drew HO_242003.out)
   have n1_ := aM (Kd.R_drew HO_247001.out)
   have n2_ := aM (Kd.R_drew HO_254003.out)
   have n3_ := aM (Kd.R_drew HO_262003.out)
   have n4_ := aM (blk_drew BK220.out)
   have n5_ := aM (blk_drew BK221.out)
   have n6_ := aM (blk_drew BK241.out)
   have n7_ := aM (blk_drew BK246.out)
   have n8_ := aM (blk_drew BK253.out)
   have n9_ := aM (blk_drew BK261.out)
   have n10_ := aM (below_drew1 HB.out)
   clear HO_242003 HO_247001
   clear HO_254003 HO_262003
   clear BK220 BK221
   clear BK241 BK246
   clear BK253 BK261 HB
   have HO_242003 := n0_
   have HO_247001 := n1_
   have HO_254003 := n2_
   have HO_262003 := n3_
   have BK220 := n4_
   have BK221 := n5_
   have BK241 := n6_
   have BK246 := n7_
   have BK253 := n8_
   have BK261 := n9_
   have HB := n10_
   clear n0_ n1_ n2_ n3_ n4_ n5_ n6_ n7_ n8_ n9_ n10_
   refine start_ (n := 5) (S := fun w' => w'.cell? ⟨gb246, 0, none⟩ = some (.int .i64 t242) ∧ w'.cell? ⟨gb246, 1, none⟩ = some (.slice Ao54 t243.length co54) ∧ w'.cell? ⟨gb220, 0, none⟩ = some (.int .i64 a0_0) ∧ w'.cell? ⟨gb220, 1, none⟩ = some (.slice A0_1 l0_1.length c0_1)) (ds := []) #[U,U,U,U,U] (by kernel_rfl) rfl rfl ⟨cI BK246.out 0, cI BK246.out 1, cI BK220.out 0, cI BK220.out 1⟩ (fun hHeld => ?_)
   generalize wc.drew = w111 at HO_242003 HO_247001 HO_254003 HO_262003 BK220 BK221 BK241 BK246 BK253 BK261 HB hHeld ⊢
   refine take_ (i := 0) (N := some 54) (v := ?_) (a' := ?_) #[Y,U,U,U,U] rfl rfl (by kernel_rfl) (fun _ _ _ h => h) (Or.inl ⟨by rfl, ?_⟩) hHeld ?_ ?_
   rotate_left
   ·rintro w' ⟨s0, s1, s2, s3⟩
    go_simp
    with_reducible rfl
   rotate_left
   ·simp only [Act.put, sA, sZ, sS, i64_w, i32_w]
    rfl
   refine take_ (i := 1) (N := some 55) (v := ?_) (a' := ?_) #[Y,Y,U,U,U] rfl rfl (by kernel_rfl) (fun _ _ _ h => h) (Or.inl ⟨by rfl, ?_⟩) hHeld ?_ ?_
   rotate_left
   ·rintro w' ⟨s0, s1, s2, s3⟩
    go_simp
    with_reducible rfl
   rotate_left
   ·simp only [Act.put, sA, sZ, sS, i64_w, i32_w]
    rfl
   refine one_ (i := 2) (N := some 56) #[Y,Y,Y,U,U] rfl rfl (by kernel_rfl) (by decide) (fun K hK => ?_)
   refine goes_ Try.func32 (by kernel_rfl) rfl #[.agg #[.int .i64 a0_0, .slice A0_1 l0_1.length c0_1]] (by rfl) rfl rfl xR ?_
   with_reducible refine (laws_toMember.calls kj24 a0_0 _ _ l0_1 t263 t264 _ ?side1 ?side2 A102.out).mono ?_
   (case side1 => repeat (first | exact (cB HR0_1.out HB.out) | (with_reducible refine Kd.C_alloc ?_ _) | (with_reducible refine Kd.C_drewN ?_ _) | (with_reducible refine Kd.C_drew ?_)))
   (case side2 => exact HC0_1.out)
   rintro e w112 ⟨v265, rfl, ho0, hb⟩
   refine ⟨_, rfl, ?_⟩
   have n0_ := aM (kB (kr HO_242003.out) hb)
   have n1_ := aM (Kd.R_elder' (kr HO_247001.out) (Kd.R_base ho0) hb)
   have n2_ := aM (kB (kr HO_254003.out) hb)
   have n3_ := aM (kB (kr HO_262003.out) hb)
   have n4_ := aM (Kd.R_lower (Kd.R_new' ho0 (Kd.R_lt (kr HO_247001.out))) (below_size (bl HB.out)))
   have n5_ := aM (bB (g := gb220) (o := .cells #[.int .i64 a0_0, .slice A0_1 l0_1.length c0_1] 44 (0, 0)) (bk BK220.out) hb)
   have n6_ := aM (bB (g := gb221) (o := .cells #[.int .i64 a1_0, .int .i64 a1_1, .int .i64 a1_2, .slice A1_3 l1_3.length c1_3] 45 (0, 0)) (bk BK221.out) hb)
   have n7_ := aM (bB (g := gb241) (o := .cells #[.int .i64 t234, .int .i64 t235, .int .i64 t236, .slice Ao44 t237.length co44] 28 (0, 0)) (bk BK241.out) hb)
   have n8_ := aM (bB (g := gb246) (o := .cells #[.int .i64 t242, .slice Ao54 t243.length co54] 26 (0, 0)) (bk BK246.out) hb)
   have n9_ := aM (bB (g := gb253) (o := .cells #[.int .i64 t247, .int .i64 t248, .int .i64 t249, .slice Ao64 t250.length co64] 28 (0, 0)) (bk BK253.out) hb)
   have n10_ := aM (bB (g := gb261) (o := .cells #[.int .i64 t254, .int .i64 t255, .int .i64 t256, .slice Ao74 t257.length co74] 28 (0, 0)) (bk BK261.out) hb)
   have n11_ := aM (bS (bl HB.out) hb)
   clear HO_242003 HO_247001
   clear HO_254003 HO_262003
   clear BK220 BK221
   clear BK241 BK246
   clear BK253 BK261 HB
   have HO_242003 := n0_
   have HO_247001 := n1_
   have HO_254003 := n2_
   have HO_262003 := n3_
   have HO266 := n4_
   have BK220 := n5_
   have BK221 := n6_
   have BK241 := n7_
   have BK246 := n8_
   have BK253 := n9_
   have BK261 := n10_
   have HB := n11_
   clear n0_ n1_ n2_ n3_ n4_ n5_ n6_ n7_ n8_ n9_ n10_ n11_
   (try clear hb)
   (try clear hb2)
   (try clear hk)
   (try clear hi)
   (try clear ho0)
   obtain ⟨Ao113, co113, eo113⟩ := Kd.R_slice HO266.out
   (first | subst eo113 | (injection eo113 with f1_ f2_ f3_; have f4_ := f1_.symm; have f5_ := f3_.symm; clear f1_ f2_ f3_; subst f4_; subst f5_))
   refine hK.out _ _ ⟨cI BK246.out 0, cI BK246.out 1, cI BK220.out 0, cI BK220.out 1⟩ (fun hHeld => ?_)
   clear hK K
   refine norm_ (a' := ?_) ?_ ?_
   rotate_left
   ·show Act.put _ (some 56) _ = _
    simp only [Act.put, sA, sZ, sS, i64_w, i32_w]
    rfl
   refine one_ (i := 3) (N := some 57) #[Y,Y,Y,Y,U] rfl rfl (by kernel_rfl) (by decide) (fun K hK => ?_)
   refine goes_ Try.func35 (by kernel_rfl) rfl #[.agg #[.int .i64 t242, .slice Ao54 t243.length co54], .agg #[.int .i64 t263, .slice Ao113 t264.length co113]] (by rfl) rfl rfl xR ?_
   with_reducible refine (laws_eqMember.calls kj24 t242 _ _ t243 t263 _ _ t264 true _ ?side1 ?side2 ?side3 ?side4 A103.out).mono ?_
   (case side1 => repeat (first | exact (Kd.R_reads' HO_247001.out).2.2 | (with_reducible refine Kd.C_alloc ?_ _) | (with_reducible refine Kd.C_drewN ?_ _) | (with_reducible refine Kd.C_drew ?_)))
   (case side2 => exact (Kd.R_reads' HO_247001.out).2.1)
   (case side3 => repeat (first | exact (Kd.R_reads' HO266.out).2.2 | (with_reducible refine Kd.C_alloc ?_ _) | (with_reducible refine Kd.C_drewN ?_ _) | (with_reducible refine Kd.C_drew ?_)))
   (case side4 => exact (Kd.R_reads' HO266.out).2.1)
   rintro e w114 ⟨rfl, hb⟩
   refine ⟨_, rfl, ?_⟩
   have n0_ := aM (kB (kr HO_242003.out) hb)
   have n1_ := aM (kB (kr HO_247001.out) hb)
   have n2_ := aM (kB (kr HO_254003.out) hb)
   have n3_ := aM (kB (kr HO_262003.out) hb)
   have n4_ := aM (kB (kr HO266.out) hb)
   have n5_ := aM (bB (g := gb220) (o := .cells #[.int .i64 a0_0, .slice A0_1 l0_1.length c0_1] 44 (0, 0)) (bk BK220.out) hb)
   have n6_ := aM (bB (g := gb221) (o := .cells #[.int .i64 a1_0, .int .i64 a1_1, .int .i64 a1_2, .slice A1_3 l1_3.length c1_3] 45 (0, 0)) (bk BK221.out) hb)
   have n7_ := aM (bB (g := gb241) (o := .cells #[.int .i64 t234, .int .i64 t235, .int .i64 t236, .slice Ao44 t237.length co44] 28 (0, 0)) (bk BK241.out) hb)
   have n8_ := aM (bB (g := gb246) (o := .cells #[.int .i64 t242, .slice Ao54 t243.length co54] 26 (0, 0)) (bk BK246.out) hb)
   have n9_ := aM (bB (g := gb253) (o := .cells #[.int .i64 t247, .int .i64 t248, .int .i64 t249, .slice Ao64 t250.length co64] 28 (0, 0)) (bk BK253.out) hb)
   have n10_ := aM (bB (g := gb261) (o := .cells #[.int .i64 t254, .int .i64 t255, .int .i64 t256, .slice Ao74 t257.length co74] 28 (0, 0)) (bk BK261.out) hb)
   have n11_ := aM (bS (bl HB.out) hb)
   clear HO_242003 HO_247001
   clear HO_254003 HO_262003
   clear HO266 BK220
   clear BK221 BK241
   clear BK246 BK253
   clear BK261 HB
   have HO_242003 := n0_
   have HO_247001 := n1_
   have HO_254003 := n2_
   have HO_262003 := n3_
   have HO266 := n4_
   have BK220 := n5_
   have BK221 := n6_
   have BK241 := n7_
   have BK246 := n8_
   have BK253 := n9_
   have BK261 := n10_
   have HB := n11_
   clear n0_ n1_ n2_ n3_ n4_ n5_ n6_ n7_ n8_ n9_ n10_ n11_
   (try clear hb)
   (try clear hb2)
   (try clear hk)
   (try clear hi)
   refine hK.out _ _ ⟨cI BK246.out 0, cI BK246.out 1, cI BK220.out 0, cI BK220.out 1⟩ (fun hHeld => ?_)
   clear hK K
   refine norm_ (a' := ?_) ?_ ?_
   rotate_left
   ·show Act.put _ (some 57) _ = _
    simp only [Act.put, sA, sZ, sS, i64_w, i32_w]
    rfl
   refine pure_ (i := 4) (N := some 58) (v := ?_) (a' := ?_) #[Y,Y,Y,Y,Y] rfl rfl (by kernel_rfl) (fun _ _ _ h => h) (Or.inl ⟨by rfl, ?_⟩) ?_ ?_
   rotate_left
   ·intro w'
    go_simp
    with_reducible rfl
   rotate_left
   ·simp only [Act.put, sA, sZ, sS, i64_w, i32_w]
    rfl
   refine done_ (by kernel_rfl) ?_
   try go_wp2
   have n0_ := aM (Kd.R_drew HO_242003.out)
   have n1_ := aM (Kd.R_drew HO_247001.out)
   have n2_ := aM (Kd.R_drew HO_254003.out)
   have n3_ := aM (Kd.R_drew HO_262003.out)
   have n4_ := aM (Kd.R_drew HO266.out)
   have n5_ := aM (blk_drew BK220.out)
   have n6_ := aM (blk_drew BK221.out)
   have n7_ := aM (blk_drew BK241.out)
   have n8_ := aM (blk_drew BK246.out)
   have n9_ := aM (blk_drew BK253.out)
   have n10_ := aM (blk_drew BK261.out)
   have n11_ := aM (below_drew1 HB.out)
   clear HO_242003 HO_247001
   clear HO_254003 HO_262003
   clear HO266 BK220
   clear BK221 BK241
   clear BK246 BK253
   clear BK261 HB
   have HO_242003 := n0_
   have HO_247001 := n1_
   have HO_254003 := n2_
   have HO_262003 := n3_
   have HO266 := n4_
   have BK220 := n5_
   have BK221 := n6_
   have BK241 := n7_
   have BK246 := n8_
   have BK253 := n9_
   have BK261 := n10_
   have HB := n11_
   clear n0_ n1_ n2_ n3_ n4_ n5_ n6_ n7_ n8_ n9_ n10_ n11_
   refine start_ (n := 5) (S := fun w' => w'.cell? ⟨gb253, 0, none⟩ = some (.int .i64 t247) ∧ w'.cell? ⟨gb253, 1, none⟩ = some (.int .i64 t248) ∧ w'.cell? ⟨gb253, 2, none⟩ = some (.int .i64 t249) ∧ w'.cell? ⟨gb253, 3, none⟩ = some (.slice Ao64 t250.length co64) ∧ w'.cell? ⟨gb221, 0, none⟩ = some (.int .i64 a1_0) ∧ w'.cell? ⟨gb221, 1, none⟩ = some (.int .i64 a1_1) ∧ w'.cell? ⟨gb221, 2, none⟩ = some (.int .i64 a1_2) ∧ w'.cell? ⟨gb221, 3, none⟩ = some (.slice A1_3 l1_3.length c1_3)) (ds := []) #[U,U,U,U,U] (by kernel_rfl) rfl rfl ⟨cI BK253.out 0, cI BK253.out 1, cI BK253.out 2, cI BK253.out 3, cI BK221.out 0, cI BK221.out 1, cI BK221.out 2, cI BK221.out 3⟩ (fun hHeld => ?_)
   generalize w114.drew = w115 at HO_242003 HO_247001 HO_254003 HO_262003 HO266 BK220 BK221 BK241 BK246 BK253 BK261 HB hHeld ⊢
   refine take_ (i := 0) (N := some 59) (v := ?_) (a' := ?_) #[Y,U,U,U,U] rfl rfl (by kernel_rfl) (fun _ _ _ h => h) (Or.inl ⟨by rfl, ?_⟩) hHeld ?_ ?_
   rotate_left
   ·rintro w' ⟨s0, s1, s2, s3, s4, s5, s6, s7⟩
    go_simp
    with_reducible rfl
   rotate_left
   ·simp only [Act.put, sA, sZ, sS, i64_w, i32_w]
    rfl
   refine take_ (i := 1) (N := some 60) (v := ?_) (a' := ?_) #[Y,Y,U,U,U] rfl rfl (by kernel_rfl) (fun _ _ _ h => h) (Or.inl ⟨by rfl, ?_⟩) hHeld ?_ ?_
   rotate_left
   ·rintro w' ⟨s0, s1, s2, s3, s4, s5, s6, s7⟩
    go_simp
    with_reducible rfl
   rotate_left
   ·simp only [Act.put, sA, sZ, sS, i64_w, i32_w]
    rfl
   refine one_ (i := 2) (N := some 61) #[Y,Y,Y,U,U] rfl rfl (by kernel_rfl) (by decide) (fun K hK => ?_)
   refine goes_ Try.func33 (by kernel_rfl) rfl #[.agg #[.int .i64 a1_0, .int .i64 a1_1, .int .i64 a1_2, .slice A1_3 l1_3.length c1_3]] (by rfl) rfl rfl xR ?_
   with_reducible refine (laws_toFrame.calls kj24 a1_0 a1_1 a1_2 _ _ l1_3 t268 t269 t270 t271 _ ?side1 ?side2 A105.out).mono ?_
   (case side1 => repeat (first | exact (cB HR1_3.out HB.out) | (with_reducible refine Kd.C_alloc ?_ _) | (with_reducible refine Kd.C_drewN ?_ _) | (with_reducible refine Kd.C_drew ?_)))
   (case side2 => exact HC1_3.out)
   rintro e w116 ⟨v272, rfl, ho0, hb⟩
   refine ⟨_, rfl, ?_⟩
   have n0_ := aM (Kd.R_elder' (kr HO_242003.out) (Kd.R_base ho0) hb)
   have n1_ := aM (kB (kr HO_247001.out) hb)
   have n2_ := aM (Kd.R_elder' (kr HO_254003.out) (Kd.R_base ho0) hb)
   have n3_ := aM (Kd.R_elder' (kr HO_262003.out) (Kd.R_base ho0) hb)
   have n4_ := aM (kB (kr HO266.out) hb)
   have n5_ := aM (Kd.R_lower (Kd.R_new' (Kd.R_new' (Kd.R_new' ho0 (Kd.R_lt (kr HO_242003.out))) (Kd.R_lt (kr HO_254003.out))) (Kd.R_lt (kr HO_262003.out))) (below_size (bl HB.out)))
   have n6_ := aM (bB (g := gb220) (o := .cells #[.int .i64 a0_0, .slice A0_1 l0_1.length c0_1] 44 (0, 0)) (bk BK220.out) hb)
   have n7_ := aM (bB (g := gb221) (o := .cells #[.int .i64 a1_0, .int .i64 a1_1, .int .i64 a1_2, .slice A1_3 l1_3.length c1_3] 45 (0, 0)) (bk BK221.out) hb)
   have n8_ := aM (bB (g := gb241) (o := .cells #[.int .i64 t234, .int .i64 t235, .int .i64 t236, .slice Ao44 t237.length co44] 28 (0, 0)) (bk BK241.out) hb)
   have n9_ := aM (bB (g := gb246) (o := .cells #[.int .i64 t242, .slice Ao54 t243.length co54] 26 (0, 0)) (bk BK246.out) hb)
   have n10_ := aM (bB (g := gb253) (o := .cells #[.int .i64 t247, .int .i64 t248, .int .i64 t249, .slice Ao64 t250.length co64] 28 (0, 0)) (bk BK253.out) hb)
   have n11_ := aM (bB (g := gb261) (o := .cells #[.int .i64 t254, .int .i64 t255, .int .i64 t256, .slice Ao74 t257.length co74] 28 (0, 0)) (bk BK261.out) hb)
   have n12_ := aM (bS (bl HB.out) hb)
   clear HO_242003 HO_247001
   clear HO_254003 HO_262003
   clear HO266 BK220
   clear BK221 BK241
   clear BK246 BK253
   clear BK261 HB
   have HO_242003 := n0_
   have HO_247001 := n1_
   have HO_254003 := n2_
   have HO_262003 := n3_
   have HO266 := n4_
   have HO273 := n5_
   have BK220 := n6_
   have BK221 := n7_
   have BK241 := n8_
   have BK246 := n9_
   have BK253 := n10_
   have BK261 := n11_
   have HB := n12_
   clear n0_ n1_ n2_ n3_ n4_ n5_ n6_ n7_ n8_ n9_ n10_ n11_ n12_
   (try clear hb)
   (try clear hb2)
   (try clear hk)
   (try clear hi)
   (try clear ho0)
   obtain ⟨Ao117, co117, eo117⟩ := Kd.R_slice HO273.out
   (first | subst eo117 | (injection eo117 with f1_ f2_ f3_; have f4_ := f1_.symm; have f5_ := f3_.symm; clear f1_ f2_ f3_; subst f4_; subst f5_))
   refine hK.out _ _ ⟨cI BK253.out 0, cI BK253.out 1, cI BK253.out 2, cI BK253.out 3, cI BK221.out 0, cI BK221.out 1, cI BK221.out 2, cI BK221.out 3⟩ (fun hHeld => ?_)
   clear hK K
   refine norm_ (a' := ?_) ?_ ?_
   rotate_left
   ·show Act.put _ (some 61) _ = _
    simp only [Act.put, sA, sZ, sS, i64_w, i32_w]
    rfl
   refine one_ (i := 3) (N := some 62) #[Y,Y,Y,Y,U] rfl rfl (by kernel_rfl) (by decide) (fun K hK => ?_)
   refine goes_ Try.func34 (by kernel_rfl) rfl #[.agg #[.int .i64 t247, .int .i64 t248, .int .i64 t249, .slice Ao64 t250.length co64], .agg #[.int .i64 t268, .int .i64 t269, .int .i64 t270, .slice Ao117 t271.length co117]] (by rfl) rfl rfl xR ?_
   with_reducible refine (laws_eqFrame.calls kj24 t247 t248 t249 _ _ t250 t268 t269 t270 _ _ t271 true _ ?side1 ?side2 ?side3 ?side4 A106.out).mono ?_
   (case side1 => repeat (first | exact (Kd.R_reads' HO_254003.out).2.2 | (with_reducible refine Kd.C_alloc ?_ _) | (with_reducible refine Kd.C_drewN ?_ _) | (with_reducible refine Kd.C_drew ?_)))
   (case side2 => exact (Kd.R_reads' HO_254003.out).2.1)
   (case side3 => repeat (first | exact (Kd.R_reads' HO273.out).2.2 | (with_reducible refine Kd.C_alloc ?_ _) | (with_reducible refine Kd.C_drewN ?_ _) | (with_reducible refine Kd.C_drew ?_)))
   (case side4 => exact (Kd.R_reads' HO273.out).2.1)
   rintro e w118 ⟨rfl, hb⟩
   refine ⟨_, rfl, ?_⟩
   have n0_ := aM (kB (kr HO_242003.out) hb)
   have n1_ := aM (kB (kr HO_247001.out) hb)
   have n2_ := aM (kB (kr HO_254003.out) hb)
   have n3_ := aM (kB (kr HO_262003.out) hb)
   have n4_ := aM (kB (kr HO266.out) hb)
   have n5_ := aM (kB (kr HO273.out) hb)
   have n6_ := aM (bB (g := gb220) (o := .cells #[.int .i64 a0_0, .slice A0_1 l0_1.length c0_1] 44 (0, 0)) (bk BK220.out) hb)
   have n7_ := aM (bB (g := gb221) (o := .cells #[.int .i64 a1_0, .int .i64 a1_1, .int .i64 a1_2, .slice A1_3 l1_3.length c1_3] 45 (0, 0)) (bk BK221.out) hb)
   have n8_ := aM (bB (g := gb241) (o := .cells #[.int .i64 t234, .int .i64 t235, .int .i64 t236, .slice Ao44 t237.length co44] 28 (0, 0)) (bk BK241.out) hb)
   have n9_ := aM (bB (g := gb246) (o := .cells #[.int .i64 t242, .slice Ao54 t243.length co54] 26 (0, 0)) (bk BK246.out) hb)
   have n10_ := aM (bB (g := gb253) (o := .cells #[.int .i64 t247, .int .i64 t248, .int .i64 t249, .slice Ao64 t250.length co64] 28 (0, 0)) (bk BK253.out) hb)
   have n11_ := aM (bB (g := gb261) (o := .cells #[.int .i64 t254, .int .i64 t255, .int .i64 t256, .slice Ao74 t257.length co74] 28 (0, 0)) (bk BK261.out) hb)
   have n12_ := aM (bS (bl HB.out) hb)
   clear HO_242003 HO_247001
   clear HO_254003 HO_262003
   clear HO266 HO273
   clear BK220 BK221
   clear BK241 BK246
   clear BK253 BK261 HB
   have HO_242003 := n0_
   have HO_247001 := n1_
   have HO_254003 := n2_
   have HO_262003 := n3_
   have HO266 := n4_
   have HO273 := n5_
   have BK220 := n6_
   have BK221 := n7_
   have BK241 := n8_
   have BK246 := n9_
   have BK253 := n10_
   have BK261 := n11_
   have HB := n12_
   clear n0_ n1_ n2_ n3_ n4_ n5_ n6_ n7_ n8_ n9_ n10_ n11_ n12_
   (try clear hb)
   (try clear hb2)
   (try clear hk)
   (try clear hi)
   refine hK.out _ _ ⟨cI BK253.out 0, cI BK253.out 1, cI BK253.out 2, cI BK253.out 3, cI BK221.out 0, cI BK221.out 1, cI BK221.out 2, cI BK221.out 3⟩ (fun hHeld => ?_)
   clear hK K
   refine norm_ (a' := ?_) ?_ ?_
   rotate_left
   ·show Act.put _ (some 62) _ = _
    simp only [Act.put, sA, sZ, sS, i64_w, i32_w]
    rfl
   refine pure_ (i := 4) (N := some 63) (v := ?_) (a' := ?_) #[Y,Y,Y,Y,Y] rfl rfl (by kernel_rfl) (fun _ _ _ h => h) (Or.inl ⟨by rfl, ?_⟩) ?_ ?_
   rotate_left
   ·intro w'
    go_simp
    with_reducible rfl
   rotate_left
   ·simp only [Act.put, sA, sZ, sS, i64_w, i32_w]
    rfl
   refine done_ (by kernel_rfl) ?_
   have hnb119 := NB246_220.out
   have hnc119 := NB220_246.out
   have hnb120 := NB246_221.out
   have hnc120 := NB221_246.out
   have hnb121 := NB246_241.out
   have hnc121 := NB241_246.out
   have hnb122 := NB246_253.out
   have hnc122 := NB253_246.out
   have hnb123 := NB246_261.out
   have hnc123 := NB261_246.out
   have hcz124_0 := cI BK246.out 0
   have hcz124_1 := cI BK246.out 1
   have hfz124_0 := bF BK246.out 0
   have hfz124_1 := bF BK246.out 1
   go_upto_region 21 with (first | ((with_reducible refine gate_callee (f := 36) rfl ?_); refine goesL_ (some 66) rfl rfl Try.func36 (by kernel_rfl) rfl #[.agg #[.int .i64 t242, .slice Ao54 t243.length co54], .int .i64 1] rfl xR ?_; (with_reducible refine (laws_markMember.calls kj24 t242 (fun k_ => some k_ = (.slice Ao54 t243.length co54 : Value).ownBlock) (.slice Ao54 t243.length co54) t243 1 t275 t276 w _ ?side1 ?side2 A108.out).mono ?_); (case side1 => repeat (first | (with_reducible first | exact HB.out | apply below_alloc | apply pw_below_drewN | apply below_drew1 | refine below_set ?_ GE220.out | refine below_set ?_ GE221.out | refine below_set ?_ GE241.out | refine below_set ?_ GE246.out | refine below_set ?_ GE253.out | refine below_set ?_ GE261.out) | exact HB.out)); (case side2 => exact Kd.R_tight rfl HO_247001.out); rintro e w125 ⟨rfl, hy0, hb, hkp⟩; refine ⟨_, rfl, ?_⟩; have n0_ := aM (Kd.R_mono (ok' := fun k_ => some k_ ≠ (.slice Ao64 t250.length co64 : Value).ownBlock ∧ some k_ ≠ (.slice Ao74 t257.length co74 : Value).ownBlock ∧ some k_ ≠ (.slice Ao117 t271.length co117 : Value).ownBlock) (Kd.R_keptB ((Kd.R_apart' HO_242003.out (Kd.R_typed HO_247001.out) (by decide))) hkp (fun k_ hk_ hs_ => (hk_.2) hs_)) (fun k_ hk_ => ⟨hk_.1.1.1.1, hk_.1.1.1.2, hk_.1.1.2⟩)); have n1_ := aM (Kd.R_reok rfl hy0 (fun k_ e_ => HO_247001.out.1 k_ e_)); have n2_ := aM (Kd.R_mono (ok' := fun k_ => some k_ ≠ (.slice Ao44 t237.length co44 : Value).ownBlock ∧ some k_ ≠ (.slice Ao74 t257.length co74 : Value).ownBlock ∧ some k_ ≠ (.slice Ao117 t271.length co117 : Value).ownBlock) (Kd.R_keptB ((Kd.R_apart' HO_254003.out (Kd.R_typed HO_247001.out) (by decide))) hkp (fun k_ hk_ hs_ => (hk_.2) hs_)) (fun k_ hk_ => ⟨hk_.1.1.1.1, hk_.1.1.1.2, hk_.1.1.2⟩)); have n3_ := aM (Kd.R_mono (ok' := fun k_ => some k_ ≠ (.slice Ao44 t237.length co44 : Value).ownBlock ∧ some k_ ≠ (.slice Ao64 t250.length co64 : Value).ownBlock ∧ some k_ ≠ (.slice Ao117 t271.length co117 : Value).ownBlock) (Kd.R_keptB ((Kd.R_apart' HO_262003.out (Kd.R_typed HO_247001.out) (by decide))) hkp (fun k_ hk_ hs_ => (hk_.2) hs_)) (fun k_ hk_ => ⟨hk_.1.1.1.1, hk_.1.1.1.2, hk_.1.1.2⟩)); have n4_ := aM (blk_kept (bk BK220.out) hkp (fun hs_ => (fun e_ => (Kd.R_ne HO_247001.out BK220.out (by decide)) e_) hs_)); have n5_ := aM (blk_kept (bk BK221.out) hkp (fun hs_ => (fun e_ => (Kd.R_ne HO_247001.out BK221.out (by decide)) e_) hs_)); have n6_ := aM (blk_kept (bk BK241.out) hkp (fun hs_ => (fun e_ => (Kd.R_ne HO_247001.out BK241.out (by decide)) e_) hs_)); have n7_ := aM (blk_kept (bk BK246.out) hkp (fun hs_ => (fun e_ => (Kd.R_ne HO_247001.out BK246.out (by decide)) e_) hs_)); have n8_ := aM (blk_kept (bk BK253.out) hkp (fun hs_ => (fun e_ => (Kd.R_ne HO_247001.out BK253.out (by decide)) e_) hs_)); have n9_ := aM (blk_kept (bk BK261.out) hkp (fun hs_ => (fun e_ => (Kd.R_ne HO_247001.out BK261.out (by decide)) e_) hs_)); have n10_ := aM (Kd.R_mono (ok' := fun k_ => some k_ ≠ (.slice Ao54 t243.length co54 : Value).ownBlock) (Kd.R_keptB (HO266.out) hkp (fun k_ hk_ hs_ => (hk_.2) hs_)) (fun k_ hk_ => hk_.1.2)); have n11_ := aM (Kd.R_mono (ok' := fun k_ => some k_ ≠ (.slice Ao44 t237.length co44 : Value).ownBlock ∧ some k_ ≠ (.slice Ao64 t250.length co64 : Value).ownBlock ∧ some k_ ≠ (.slice Ao74 t257.length co74 : Value).ownBlock) (Kd.R_keptB ((Kd.R_apart' HO273.out (Kd.R_typed HO_247001.out) (by decide))) hkp (fun k_ hk_ hs_ => (hk_.2) hs_)) (fun k_ hk_ => ⟨hk_.1.1.1.1.2, hk_.1.1.1.2, hk_.1.1.2⟩)); have n12_ := aM (hb); clear HO_242003 HO_247001; clear HO_254003 HO_262003; clear BK220 BK221; clear BK241 BK246; clear BK253 BK261; clear HO266 HO273 HB; have HO_242003 := n0_; have HO_247001 := n1_; have HO_254003 := n2_; have HO_262003 := n3_; have BK220 := n4_; have BK221 := n5_; have BK241 := n6_; have BK246 := n7_; have BK253 := n8_; have BK261 := n9_; have HO266 := n10_; have HO273 := n11_; have HB := n12_; clear n0_ n1_ n2_ n3_ n4_ n5_ n6_ n7_ n8_ n9_ n10_ n11_ n12_; (try clear hb); (try clear hkp); (try clear hy0); have hnb126 := NB253_220.out; have hnc126 := NB220_253.out; have hnb127 := NB253_221.out; have hnc127 := NB221_253.out; have hnb128 := NB253_241.out; have hnc128 := NB241_253.out; have hnb129 := NB253_261.out; have hnc129 := NB261_253.out; have hcz130_0 := cI BK253.out 0; have hcz130_1 := cI BK253.out 1; have hcz130_2 := cI BK253.out 2; have hcz130_3 := cI BK253.out 3; have hfz130_0 := bF BK253.out 0; have hfz130_1 := bF BK253.out 1; have hfz130_2 := bF BK253.out 2; have hfz130_3 := bF BK253.out 3) | ((with_reducible refine gate_callee (f := 37) rfl ?_); refine goesL_ (some 69) rfl rfl Try.func37 (by kernel_rfl) rfl #[.agg #[.int .i64 t247, .int .i64 t248, .int .i64 t249, .slice Ao64 t250.length co64], .int .i64 t275] rfl xR ?_; (with_reducible refine (laws_markFrame.calls kj24 t247 t248 t249 (fun k_ => some k_ = (.slice Ao64 t250.length co64 : Value).ownBlock) (.slice Ao64 t250.length co64) t250 t275 t277 t278 w _ ?side1 ?side2 A109.out).mono ?_); (case side1 => repeat (first | (with_reducible first | exact HB.out | apply below_alloc | apply pw_below_drewN | apply below_drew1 | refine below_set ?_ GE220.out | refine below_set ?_ GE221.out | refine below_set ?_ GE241.out | refine below_set ?_ GE246.out | refine below_set ?_ GE253.out | refine below_set ?_ GE261.out) | exact HB.out)); (case side2 => exact Kd.R_tight rfl HO_254003.out); rintro e w131 ⟨rfl, hy0, hb, hkp⟩; refine ⟨_, rfl, ?_⟩; have n0_ := aM (Kd.R_mono (ok' := fun k_ => some k_ ≠ (.slice Ao64 t250.length co64 : Value).ownBlock ∧ some k_ ≠ (.slice Ao74 t257.length co74 : Value).ownBlock ∧ some k_ ≠ (.slice Ao117 t271.length co117 : Value).ownBlock) (Kd.R_keptB (HO_242003.out) hkp (fun k_ hk_ hs_ => (hk_.1) hs_)) (fun k_ hk_ => ⟨hk_.1.1, hk_.1.2.1, hk_.1.2.2⟩)); have n1_ := aM (Kd.R_mono (ok' := fun k_ => some k_ ≠ (.slice Ao113 t264.length co113 : Value).ownBlock) (Kd.R_keptB ((Kd.R_apart' HO_247001.out (Kd.R_typed HO_254003.out) (by decide))) hkp (fun k_ hk_ hs_ => (hk_.2) hs_)) (fun k_ hk_ => hk_.1.1.2)); have n2_ := aM (Kd.R_reok rfl hy0 (fun k_ e_ => HO_254003.out.1 k_ e_)); have n3_ := aM (Kd.R_mono (ok' := fun k_ => some k_ ≠ (.slice Ao44 t237.length co44 : Value).ownBlock ∧ some k_ ≠ (.slice Ao64 t250.length co64 : Value).ownBlock ∧ some k_ ≠ (.slice Ao117 t271.length co117 : Value).ownBlock) (Kd.R_keptB (HO_262003.out) hkp (fun k_ hk_ hs_ => (hk_.2.1) hs_)) (fun k_ hk_ => ⟨hk_.1.1, hk_.1.2.1, hk_.1.2.2⟩)); have n4_ := aM (blk_kept (bk BK220.out) hkp (fun hs_ => (fun e_ => (Kd.R_ne HO_254003.out BK220.out (by decide)) e_) hs_)); have n5_ := aM (blk_kept (bk BK221.out) hkp (fun hs_ => (fun e_ => (Kd.R_ne HO_254003.out BK221.out (by decide)) e_) hs_)); have n6_ := aM (blk_kept (bk BK241.out) hkp (fun hs_ => (fun e_ => (Kd.R_ne HO_254003.out BK241.out (by decide)) e_) hs_)); have n7_ := aM (blk_kept (bk BK246.out) hkp (fun hs_ => (fun e_ => (Kd.R_ne HO_254003.out BK246.out (by decide)) e_) hs_)); have n8_ := aM (blk_kept (bk BK253.out) hkp (fun hs_ => (fun e_ => (Kd.R_ne HO_254003.out BK253.out (by decide)) e_) hs_)); have n9_ := aM (blk_kept (bk BK261.out) hkp (fun hs_ => (fun e_ => (Kd.R_ne HO_254003.out BK261.out (by decide)) e_) hs_)); have n10_ := aM (Kd.R_mono (ok' := fun k_ => some k_ ≠ (.slice Ao54 t243.length co54 : Value).ownBlock) (Kd.R_keptB ((Kd.R_apart' HO266.out (Kd.R_typed HO_254003.out) (by decide))) hkp (fun k_ hk_ hs_ => (hk_.2) hs_)) (fun k_ hk_ => hk_.1.1)); have n11_ := aM (Kd.R_mono (ok' := fun k_ => some k_ ≠ (.slice Ao44 t237.length co44 : Value).ownBlock ∧ some k_ ≠ (.slice Ao64 t250.length co64 : Value).ownBlock ∧ some k_ ≠ (.slice Ao74 t257.length co74 : Value).ownBlock) (Kd.R_keptB (HO273.out) hkp (fun k_ hk_ hs_ => (hk_.2.1) hs_)) (fun k_ hk_ => ⟨hk_.1.1, hk_.1.2.1, hk_.1.2.2⟩)); have n12_ := aM (hb); clear HO_242003 HO_247001; clear HO_254003 HO_262003; clear BK220 BK221; clear BK241 BK246; clear BK253 BK261; clear HO266 HO273 HB; have HO_242003 := n0_; have HO_247001 := n1_; have HO_254003 := n2_; have HO_262003 := n3_; have BK220 := n4_; have BK221 := n5_; have BK241 := n6_; have BK246 := n7_; have BK253 := n8_; have BK261 := n9_; have HO266 := n10_; have HO273 := n11_; have HB := n12_; clear n0_ n1_ n2_ n3_ n4_ n5_ n6_ n7_ n8_ n9_ n10_ n11_ n12_; (try clear hb); (try clear hkp); (try clear hy0)))
   (try simp only [Act.put, sA, sZ, sS])
   go_cut [82] (fun v82 wc => ∃ (kq : Nat) (x82_109 : Bool), v82 = .bool x82_109 ∧ Aside0 (laws_FnExactInside.j1 kq t240 x82_109 a0_0 l0_1 a1_0 a1_1 a1_2 l1_3 t234 t235 t236 t237 t254 t255 t256 t257 = some true) ∧ Aside0 (kq ≤ kj24) ∧ Aside0 (Kd.R (Kd.int .u8) 5 wc w.heap.size (fun k_ => some k_ ≠ ((.slice Ao64 t250.length co64) : Value).ownBlock ∧ some k_ ≠ ((.slice Ao74 t257.length co74) : Value).ownBlock) (.slice Ao44 t237.length co44) t237) ∧ Aside0 (Kd.R (Kd.int .i64) 3 wc w.heap.size (fun _ => True) (.slice Ao54 t243.length co54) t276) ∧ Aside0 (Kd.R (Kd.int .u8) 5 wc w.heap.size (fun k_ => some k_ ≠ ((.slice Ao44 t237.length co44) : Value).ownBlock ∧ some k_ ≠ ((.slice Ao74 t257.length co74) : Value).ownBlock) (.slice Ao64 t250.length co64) t278) ∧ Aside0 (Kd.R (Kd.int .u8) 5 wc w.heap.size (fun k_ => some k_ ≠ ((.slice Ao44 t237.length co44) : Value).ownBlock ∧ some k_ ≠ ((.slice Ao64 t250.length co64) : Value).ownBlock) (.slice Ao74 t257.length co74) t257) ∧ Aside0 (wc.heap[gb220]? = some (.cells #[.int .i64 a0_0, (.slice A0_1 l0_1.length c0_1)] 44 (0, 0))) ∧ Aside0 (wc.heap[gb221]? = some (.cells #[.int .i64 a1_0, .int .i64 a1_1, .int .i64 a1_2, (.slice A1_3 l1_3.length c1_3)] 45 (0, 0))) ∧ Aside0 (wc.heap[gb241]? = some (.cells #[.int .i64 t234, .int .i64 t235, .int .i64 t236, (.slice Ao44 t237.length co44)] 28 (0, 0))) ∧ Aside0 (wc.heap[gb246]? = some (.cells #[.int .i64 t242, (.slice Ao54 t243.length co54)] 26 (0, 0))) ∧ Aside0 (wc.heap[gb253]? = some (.cells #[.int .i64 t247, .int .i64 t248, .int .i64 t249, (.slice Ao64 t250.length co64)] 28 (0, 0))) ∧ Aside0 (wc.heap[gb261]? = some (.cells #[.int .i64 t254, .int .i64 t255, .int .i64 t256, (.slice Ao74 t257.length co74)] 28 (0, 0))) ∧ Aside0 (Below w.heap.size w wc))
   case first =>
    have H := HC110.out
    clear HC110
    by_cases c132 : t277 < 0
    case pos =>
     rw [if_pos c132] at H
     have c132b0 : decide (t277 < 0) = true := decide_eq_true c132
     clear c132
     (first | rw [c132b0] | (simp only [i64_w, i32_w]; rw [c132b0]) | skip)
     have H' := aM H
     clear H
     go_wp2
     go_meet
     case rel => exact ⟨_, (true), xE, H', ⟨by have := HJ24.out; first | omega | exact Nat.le_refl _⟩, ⟨kr (Kd.R_mono HO_242003.out (fun _ hk => ⟨hk.1, hk.2.1⟩))⟩, ⟨kr (Kd.R_mono HO_247001.out (fun _ hk => trivial))⟩, ⟨kr (Kd.R_mono HO_254003.out (fun _ hk => ⟨hk.1, hk.2.1⟩))⟩, ⟨kr (Kd.R_mono HO_262003.out (fun _ hk => ⟨hk.1, hk.2.1⟩))⟩, ⟨by (with_reducible repeat (first | refine blk_drewN ?_ _ | refine blk_drew ?_ | refine blk_alloc ?_ _)); exact BK220.out⟩, ⟨by (with_reducible repeat (first | refine blk_drewN ?_ _ | refine blk_drew ?_ | refine blk_alloc ?_ _)); exact BK221.out⟩, ⟨by (with_reducible repeat (first | refine blk_drewN ?_ _ | refine blk_drew ?_ | refine blk_alloc ?_ _)); exact BK241.out⟩, ⟨by (with_reducible repeat (first | refine blk_drewN ?_ _ | refine blk_drew ?_ | refine blk_alloc ?_ _)); exact BK246.out⟩, ⟨by (with_reducible repeat (first | refine blk_drewN ?_ _ | refine blk_drew ?_ | refine blk_alloc ?_ _)); exact BK253.out⟩, ⟨by (with_reducible repeat (first | refine blk_drewN ?_ _ | refine blk_drew ?_ | refine blk_alloc ?_ _)); exact BK261.out⟩, ⟨bl HB.out⟩⟩
    rw [if_neg c132] at H
    have c132b0 : decide (t277 < 0) = false := decide_eq_false c132
    clear c132
    (first | rw [c132b0] | (simp only [i64_w, i32_w]; rw [c132b0]) | skip)
    replace H := Option.bind_eq_some_iff.mp H
    obtain ⟨t279, A1330, H⟩ := H
    replace H : (if t279 = true then (laws_FnExactInside.j1 kj24 t240 (t260 != t240) a0_0 l0_1 a1_0 a1_1 a1_2 l1_3 t234 t235 t236 t237 t254 t255 t256 t257) else (laws_FnExactInside.j1 kj24 t240 true a0_0 l0_1 a1_0 a1_1 a1_2 l1_3 t234 t235 t236 t237 t254 t255 t256 t257)) = some true := H
    have A133 := aM A1330
    clear A1330
    by_cases c134 : t279 = true
    case neg =>
     replace c134 := Bool.eq_false_iff.mpr c134
     subst c134
     have H1 : (laws_FnExactInside.j1 kj24 t240 true a0_0 l0_1 a1_0 a1_1 a1_2 l1_3 t234 t235 t236 t237 t254 t255 t256 t257) = some true := by first | (rw [if_neg (show ¬ (false = true) by decide)] at H; exact H) | (rw [if_neg (show ¬ (false = true) by decide)] at H)
     clear H
     have H := H1
     clear H1
     exact absurd H (by cases kj24 <;> (simp only [laws_FnExactInside.j1, if_true]) <;> decide)
    subst c134
    have H1 : (laws_FnExactInside.j1 kj24 t240 (t260 != t240) a0_0 l0_1 a1_0 a1_1 a1_2 l1_3 t234 t235 t236 t237 t254 t255 t256 t257) = some true := by first | (rw [if_pos rfl] at H; exact H) | (rw [if_pos rfl] at H)
    clear H
    have H := H1
    clear H1
    have H' := aM H
    clear H
    have hnb135 := NB261_220.out
    have hnc135 := NB220_261.out
    have hnb136 := NB261_221.out
    have hnc136 := NB221_261.out
    have hnb137 := NB261_241.out
    have hnc137 := NB241_261.out
    have hnb138 := NB261_246.out
    have hnc138 := NB246_261.out
    have hnb139 := NB261_253.out
    have hnc139 := NB253_261.out
    have hcz140_0 := cI BK261.out 0
    have hcz140_1 := cI BK261.out 1
    have hcz140_2 := cI BK261.out 2
    have hcz140_3 := cI BK261.out 3
    have hfz140_0 := bF BK261.out 0
    have hfz140_1 := bF BK261.out 1
    have hfz140_2 := bF BK261.out 2
    have hfz140_3 := bF BK261.out 3
    have hnb141 := NB241_220.out
    have hnc141 := NB220_241.out
    have hnb142 := NB241_221.out
    have hnc142 := NB221_241.out
    have hnb143 := NB241_246.out
    have hnc143 := NB246_241.out
    have hnb144 := NB241_253.out
    have hnc144 := NB253_241.out
    have hcz145_0 := cI BK241.out 0
    have hcz145_1 := cI BK241.out 1
    have hcz145_2 := cI BK241.out 2
    have hcz145_3 := cI BK241.out 3
    have hfz145_0 := bF BK241.out 0
    have hfz145_1 := bF BK241.out 1
    have hfz145_2 := bF BK241.out 2
    have hfz145_3 := bF BK241.out 3
    go_wp2_with (first | (go_at_call 34; (with_reducible refine (laws_eqFrame.calls kj24 t254 t255 t256 _ _ t257 t234 t235 t236 _ _ t237 true _ ?side1 ?side2 ?side3 ?side4 A133.out).mono ?_); (case side1 => repeat (first | exact (Kd.R_reads' HO_262003.out).2.2 | (with_reducible refine Kd.C_alloc ?_ _) | (with_reducible refine Kd.C_drewN ?_ _) | (with_reducible refine Kd.C_drew ?_))); (case side2 => exact (Kd.R_reads' HO_262003.out).2.1); (case side3 => repeat (first | exact (Kd.R_reads' HO_242003.out).2.2 | (with_reducible refine Kd.C_alloc ?_ _) | (with_reducible refine Kd.C_drewN ?_ _) | (with_reducible refine Kd.C_drew ?_))); (case side4 => exact (Kd.R_reads' HO_242003.out).2.1); rintro e w146 ⟨rfl, hb⟩; have n0_ := aM (kB (kr HO_242003.out) hb); have n1_ := aM (kB (kr HO_247001.out) hb); have n2_ := aM (kB (kr HO_254003.out) hb); have n3_ := aM (kB (kr HO_262003.out) hb); have n4_ := aM (kB (kr HO266.out) hb); have n5_ := aM (kB (kr HO273.out) hb); have n6_ := aM (bB (g := gb220) (o := .cells #[.int .i64 a0_0, .slice A0_1 l0_1.length c0_1] 44 (0, 0)) (bk BK220.out) hb); have n7_ := aM (bB (g := gb221) (o := .cells #[.int .i64 a1_0, .int .i64 a1_1, .int .i64 a1_2, .slice A1_3 l1_3.length c1_3] 45 (0, 0)) (bk BK221.out) hb); have n8_ := aM (bB (g := gb241) (o := .cells #[.int .i64 t234, .int .i64 t235, .int .i64 t236, .slice Ao44 t237.length co44] 28 (0, 0)) (bk BK241.out) hb); have n9_ := aM (bB (g := gb246) (o := .cells #[.int .i64 t242, .slice Ao54 t243.length co54] 26 (0, 0)) (bk BK246.out) hb); have n10_ := aM (bB (g := gb253) (o := .cells #[.int .i64 t247, .int .i64 t248, .int .i64 t249, .slice Ao64 t250.length co64] 28 (0, 0)) (bk BK253.out) hb); have n11_ := aM (bB (g := gb261) (o := .cells #[.int .i64 t254, .int .i64 t255, .int .i64 t256, .slice Ao74 t257.length co74] 28 (0, 0)) (bk BK261.out) hb); have n12_ := aM (bS (bl HB.out) hb); clear HO_242003 HO_247001; clear HO_254003 HO_262003; clear HO266 HO273; clear BK220 BK221; clear BK241 BK246; clear BK253 BK261 HB; have HO_242003 := n0_; have HO_247001 := n1_; have HO_254003 := n2_; have HO_262003 := n3_; have HO266 := n4_; have HO273 := n5_; have BK220 := n6_; have BK221 := n7_; have BK241 := n8_; have BK246 := n9_; have BK253 := n10_; have BK261 := n11_; have HB := n12_; clear n0_ n1_ n2_ n3_ n4_ n5_ n6_ n7_ n8_ n9_ n10_ n11_ n12_; (try clear hb)))
    go_meet
    case rel => exact ⟨_, ((t260 != t240)), xE, H', ⟨by have := HJ24.out; first | omega | exact Nat.le_refl _⟩, ⟨kr (Kd.R_mono HO_242003.out (fun _ hk => ⟨hk.1, hk.2.1⟩))⟩, ⟨kr (Kd.R_mono HO_247001.out (fun _ hk => trivial))⟩, ⟨kr (Kd.R_mono HO_254003.out (fun _ hk => ⟨hk.1, hk.2.1⟩))⟩, ⟨kr (Kd.R_mono HO_262003.out (fun _ hk => ⟨hk.1, hk.2.1⟩))⟩, ⟨by (with_reducible repeat (first | refine blk_drewN ?_ _ | refine blk_drew ?_ | refine blk_alloc ?_ _)); exact BK220.out⟩, ⟨by (with_reducible repeat (first | refine blk_drewN ?_ _ | refine blk_drew ?_ | refine blk_alloc ?_ _)); exact BK221.out⟩, ⟨by (with_reducible repeat (first | refine blk_drewN ?_ _ | refine blk_drew ?_ | refine blk_alloc ?_ _)); exact BK241.out⟩, ⟨by (with_reducible repeat (first | refine blk_drewN ?_ _ | refine blk_drew ?_ | refine blk_alloc ?_ _)); exact BK246.out⟩, ⟨by (with_reducible repeat (first | refine blk_drewN ?_ _ | refine blk_drew ?_ | refine blk_alloc ?_ _)); exact BK253.out⟩, ⟨by (with_reducible repeat (first | refine blk_drewN ?_ _ | refine blk_drew ?_ | refine blk_alloc ?_ _)); exact BK261.out⟩, ⟨bl HB.out⟩⟩
   case rest =>
    clear HC110
    try clear c1
    try clear p2
    try clear c3
    try clear c10
    try clear c11
    try clear c12
    try clear c13
    try clear c14
    try clear c15
    try clear c32
    try clear c33
    try clear c34
    try clear c35
    try clear c36
    try clear c37
    try clear c101
    try clear c104
    try clear c107
    try clear c119
    try clear c120
    try clear c121
    try clear c122
    try clear c123
    try clear c126
    try clear c127
    try clear c128
    try clear c129
    try clear c132
    try clear c132b0
    try clear c134
    try clear c135
    try clear c136
    try clear c137
    try clear c138
    try clear c139
    try clear c141
    try clear c142
    try clear c143
    try clear c144
    try clear c147
    try clear c148
    try clear c149
    try clear c150
    try clear c151
    try clear c153
    try clear c154
    try clear c155
    try clear c156
    try clear hcz124_0
    try clear hcz124_1
    try clear hcz130_0
    try clear hcz130_1
    try clear hcz130_2
    try clear hcz130_3
    try clear hcz140_0
    try clear hcz140_1
    try clear hcz140_2
    try clear hcz140_3
    try clear hcz145_0
    try clear hcz145_1
    try clear hcz145_2
    try clear hcz145_3
    try clear hcz152_0
    try clear hcz152_1
    try clear hcz152_2
    try clear hcz152_3
    try clear hcz157_0
    try clear hcz157_1
    try clear hcz157_2
    try clear hcz157_3
    try clear hcz94_1
    try clear hcz94_2
    try clear hcz94_3
    try clear hcz99_0
    try clear hcz99_1
    try clear hcz99_2
    try clear hcz99_3
    try clear hfz124_0
    try clear hfz124_1
    try clear hfz130_0
    try clear hfz130_1
    try clear hfz130_2
    try clear hfz130_3
    try clear hfz140_0
    try clear hfz140_1
    try clear hfz140_2
    try clear hfz140_3
    try clear hfz145_0
    try clear hfz145_1
    try clear hfz145_2
    try clear hfz145_3
    try clear hfz152_0
    try clear hfz152_1
    try clear hfz152_2
    try clear hfz152_3
    try clear hfz157_0
    try clear hfz157_1
    try clear hfz157_2
    try clear hfz157_3
    try clear hfz47_0
    try clear hfz47_1
    try clear hfz53_0
    try clear hfz53_1
    try clear hfz56_0
    try clear hfz56_1
    try clear hfz56_2
    try clear hfz56_3
    try clear hfz63_0
    try clear hfz63_1
    try clear hfz63_2
    try clear hfz63_3
    try clear hfz65_0
    try clear hfz65_1
    try clear hfz73_0
    try clear hfz73_1
    try clear hfz73_2
    try clear hfz73_3
    try clear hfz82_0
    try clear hfz82_1
    try clear hfz82_2
    try clear hfz82_3
    try clear hfz87_0
    try clear hfz87_1
    try clear hfz87_2
    try clear hfz87_3
    try clear hfz94_0
    try clear hfz94_1
    try clear hfz94_2
    try clear hfz94_3
    try clear hfz99_0
    try clear hfz99_1
    try clear hfz99_2
    try clear hfz99_3
    obtain ⟨kq, x82_109, rfl, HA, HJ109, HO_242003, HO_247001, HO_254003, HO_262003, BK220, BK221, BK241, BK246, BK253, BK261, HB⟩ := hcut
    have hl247001_109 := (Kd.R_reads' HO_247001.out).1
    rw [hl247001_109] at HO_247001
    (try simp only [hl247001_109])
    (try simp only [hl247001_109] at BK220)
    (try simp only [hl247001_109] at BK221)
    (try simp only [hl247001_109] at BK241)
    (try simp only [hl247001_109] at BK246)
    (try simp only [hl247001_109] at BK253)
    (try simp only [hl247001_109] at BK261)
    (try simp only [hl247001_109] at HO_242003)
    (try simp only [hl247001_109] at HO_254003)
    (try simp only [hl247001_109] at HO_262003)
    have hl254003_109 := (Kd.R_reads' HO_254003.out).1
    rw [hl254003_109] at HO_254003
    (try simp only [hl254003_109])
    (try simp only [hl254003_109] at BK220)
    (try simp only [hl254003_109] at BK221)
    (try simp only [hl254003_109] at BK241)
    (try simp only [hl254003_109] at BK246)
    (try simp only [hl254003_109] at BK253)
    (try simp only [hl254003_109] at BK261)
    (try simp only [hl254003_109] at HO_242003)
    (try simp only [hl254003_109] at HO_247001)
    (try simp only [hl254003_109] at HO_262003)
    cases kq with
    | zero => exact absurd HA.out (by simp [laws_FnExactInside.j1])
    | succ kj109 =>
     have H := HA.out
     clear HA
     simp only [laws_FnExactInside.j1] at H
     by_cases c159 : x82_109 = true
     case pos =>
      subst c159
      have H1 : (some false) = some true := by first | (rw [if_pos rfl] at H; exact H) | (rw [if_pos rfl] at H)
      clear H
      have H := H1
      clear H1
      exact absurd (Option.some.inj H) (by decide)
     replace c159 := Bool.eq_false_iff.mpr c159
     subst c159
     have H1 : ((laws_markFrame.f kj109 t254 t255 t256 t257 1).bind fun bt280 => ((laws_heldFrame.f kj109 t254 t255 t256 bt280.2 1).bind fun t282 => (if t282 < 0 then (some false) else (if t282 = bt280.1 then ((laws_toMember.f kj109 a0_0 l0_1).bind fun bt283 => ((laws_toFrame.f kj109 a1_0 a1_1 a1_2 l1_3).bind fun bt287 => ((impl_Inside.f kj109 bt283.1 bt283.2 bt287.1 bt287.2.1 bt287.2.2.1 bt287.2.2.2).bind fun bt293 => ((laws_eqFrame.f kj109 bt293.1 bt293.2.1 bt293.2.2.1 bt293.2.2.2.1 t234 t235 t236 t237).bind fun t301 => (if t301 = true then (laws_FnExactInside.j2 kj109 bt280.1 (bt293.2.2.2.2 != t240) t254 t255 t256 bt280.2) else (laws_FnExactInside.j2 kj109 bt280.1 true t254 t255 t256 bt280.2)))))) else (some false))))) = some true := by first | (rw [if_neg (show ¬ (false = true) by decide)] at H; exact H) | (rw [if_neg (show ¬ (false = true) by decide)] at H)
     clear H
     have H := H1
     clear H1
     replace H := Option.bind_eq_some_iff.mp H
     obtain ⟨⟨t280, t281⟩, A1600, H⟩ := H
     replace H : ((laws_heldFrame.f kj109 t254 t255 t256 t281 1).bind fun t282 => (if t282 < 0 then (some false) else (if t282 = t280 then ((laws_toMember.f kj109 a0_0 l0_1).bind fun bt283 => ((laws_toFrame.f kj109 a1_0 a1_1 a1_2 l1_3).bind fun bt287 => ((impl_Inside.f kj109 bt283.1 bt283.2 bt287.1 bt287.2.1 bt287.2.2.1 bt287.2.2.2).bind fun bt293 => ((laws_eqFrame.f kj109 bt293.1 bt293.2.1 bt293.2.2.1 bt293.2.2.2.1 t234 t235 t236 t237).bind fun t301 => (if t301 = true then (laws_FnExactInside.j2 kj109 t280 (bt293.2.2.2.2 != t240) t254 t255 t256 t281) else (laws_FnExactInside.j2 kj109 t280 true t254 t255 t256 t281)))))) else (some false)))) = some true := H
     have A160 := aM A1600
     clear A1600
     replace H := Option.bind_eq_some_iff.mp H
     obtain ⟨t282, A1610, H⟩ := H
     replace H : (if t282 < 0 then (some false) else (if t282 = t280 then ((laws_toMember.f kj109 a0_0 l0_1).bind fun bt283 => ((laws_toFrame.f kj109 a1_0 a1_1 a1_2 l1_3).bind fun bt287 => ((impl_Inside.f kj109 bt283.1 bt283.2 bt287.1 bt287.2.1 bt287.2.2.1 bt287.2.2.2).bind fun bt293 => ((laws_eqFrame.f kj109 bt293.1 bt293.2.1 bt293.2.2.1 bt293.2.2.2.1 t234 t235 t236 t237).bind fun t301 => (if t301 = true then (laws_FnExactInside.j2 kj109 t280 (bt293.2.2.2.2 != t240) t254 t255 t256 t281) else (laws_FnExactInside.j2 kj109 t280 true t254 t255 t256 t281)))))) else (some false))) = some true := H
     have A161 := aM A1610
     clear A1610
     by_cases c162 : t282 < 0
     case pos =>
      rw [if_pos c162] at H
      have c162b0 : decide (t282 < 0) = true := decide_eq_true c162
      clear c162
      exact absurd (Option.some.inj H) (by decide)
     rw [if_neg c162] at H
     have c162b0 : decide (t282 < 0) = false := decide_eq_false c162
     clear c162
     by_cases c172 : t282 = t280
     case neg =>
      rw [if_neg c172] at H
      have c172b0 : (t282 == t280) = false := beq_eq_false_iff_ne.mpr c172
      have c172b1 : (t282 != t280) = true := bne_iff_ne.mpr c172
      exact absurd (Option.some.inj H) (by decide)
     rw [if_pos c172] at H
     have c172b0 : (t282 == t280) = true := beq_iff_eq.mpr c172
     have c172b1 : (t282 != t280) = false := bne_eq_false_iff_eq.mpr c172
     clear c172
     replace H := Option.bind_eq_some_iff.mp H
     obtain ⟨⟨t283, t284⟩, A1730, H⟩ := H
     replace H : ((laws_toFrame.f kj109 a1_0 a1_1 a1_2 l1_3).bind fun bt287 => ((impl_Inside.f kj109 t283 t284 bt287.1 bt287.2.1 bt287.2.2.1 bt287.2.2.2).bind fun bt293 => ((laws_eqFrame.f kj109 bt293.1 bt293.2.1 bt293.2.2.1 bt293.2.2.2.1 t234 t235 t236 t237).bind fun t301 => (if t301 = true then (laws_FnExactInside.j2 kj109 t280 (bt293.2.2.2.2 != t240) t254 t255 t256 t281) else (laws_FnExactInside.j2 kj109 t280 true t254 t255 t256 t281))))) = some true := H
     have A173 := aM A1730
     clear A1730
     replace H := Option.bind_eq_some_iff.mp H
     obtain ⟨⟨t287, t288, t289, t290⟩, A1740, H⟩ := H
     replace H : ((impl_Inside.f kj109 t283 t284 t287 t288 t289 t290).bind fun bt293 => ((laws_eqFrame.f kj109 bt293.1 bt293.2.1 bt293.2.2.1 bt293.2.2.2.1 t234 t235 t236 t237).bind fun t301 => (if t301 = true then (laws_FnExactInside.j2 kj109 t280 (bt293.2.2.2.2 != t240) t254 t255 t256 t281) else (laws_FnExactInside.j2 kj109 t280 true t254 t255 t256 t281)))) = some true := H
     have A174 := aM A1740
     clear A1740
     replace H := Option.bind_eq_some_iff.mp H
     obtain ⟨⟨t293, t294, t295, t296, t299⟩, A1750, H⟩ := H
     replace H : ((laws_eqFrame.f kj109 t293 t294 t295 t296 t234 t235 t236 t237).bind fun t301 => (if t301 = true then (laws_FnExactInside.j2 kj109 t280 (t299 != t240) t254 t255 t256 t281) else (laws_FnExactInside.j2 kj109 t280 true t254 t255 t256 t281))) = some true := H
     have A175 := aM A1750
     clear A1750
     have HC176 := aM H
     clear H
     have hnb177 := NB261_220.out
     have hnc177 := NB220_261.out
     have hnb178 := NB261_221.out
     have hnc178 := NB221_261.out
     have hnb179 := NB261_241.out
     have hnc179 := NB241_261.out
     have hnb180 := NB261_246.out
     have hnc180 := NB246_261.out
     have hnb181 := NB261_253.out
     have hnc181 := NB253_261.out
     have hcz182_0 := cI BK261.out 0
     have hcz182_1 := cI BK261.out 1
     have hcz182_2 := cI BK261.out 2
     have hcz182_3 := cI BK261.out 3
     have hfz182_0 := bF BK261.out 0
     have hfz182_1 := bF BK261.out 1
     have hfz182_2 := bF BK261.out 2
     have hfz182_3 := bF BK261.out 3
     try go_wp2_with (first | ((with_reducible refine gate_callee (f := 37) rfl ?_); refine goesL_ (some 85) rfl rfl Try.func37 (by kernel_rfl) rfl #[.agg #[.int .i64 t254, .int .i64 t255, .int .i64 t256, .slice Ao74 t257.length co74], .int .i64 1] rfl xR ?_; (with_reducible refine (laws_markFrame.calls kj109 t254 t255 t256 (fun k_ => some k_ = (.slice Ao74 t257.length co74 : Value).ownBlock) (.slice Ao74 t257.length co74) t257 1 t280 t281 w _ ?side1 ?side2 A160.out).mono ?_); (case side1 => repeat (first | (with_reducible first | exact HB.out | apply below_alloc | apply pw_below_drewN | apply below_drew1 | refine below_set ?_ GE220.out | refine below_set ?_ GE221.out | refine below_set ?_ GE241.out | refine below_set ?_ GE246.out | refine below_set ?_ GE253.out | refine below_set ?_ GE261.out) | exact HB.out)); (case side2 => exact Kd.R_tight rfl HO_262003.out); rintro e w183 ⟨rfl, hy0, hb, hkp⟩; refine ⟨_, rfl, ?_⟩; have n0_ := aM (Kd.R_mono (ok' := fun k_ => some k_ ≠ (.slice Ao64 t278.length co64 : Value).ownBlock ∧ some k_ ≠ (.slice Ao74 t257.length co74 : Value).ownBlock) (Kd.R_keptB (HO_242003.out) hkp (fun k_ hk_ hs_ => (hk_.2) hs_)) (fun k_ hk_ => ⟨hk_.1.1, hk_.1.2⟩)); have n1_ := aM (Kd.R_mono (ok' := fun k_ => True) (Kd.R_keptB ((Kd.R_apart' HO_247001.out (Kd.R_typed HO_262003.out) (by decide))) hkp (fun k_ hk_ hs_ => (hk_.2) hs_)) (fun k_ hk_ => trivial)); have n2_ := aM (Kd.R_mono (ok' := fun k_ => some k_ ≠ (.slice Ao44 t237.length co44 : Value).ownBlock ∧ some k_ ≠ (.slice Ao74 t257.length co74 : Value).ownBlock) (Kd.R_keptB (HO_254003.out) hkp (fun k_ hk_ hs_ => (hk_.2) hs_)) (fun k_ hk_ => ⟨hk_.1.1, hk_.1.2⟩)); have n3_ := aM (Kd.R_reok rfl hy0 (fun k_ e_ => HO_262003.out.1 k_ e_)); have n4_ := aM (blk_kept (bk BK220.out) hkp (fun hs_ => (fun e_ => (Kd.R_ne HO_262003.out BK220.out (by decide)) e_) hs_)); have n5_ := aM (blk_kept (bk BK221.out) hkp (fun hs_ => (fun e_ => (Kd.R_ne HO_262003.out BK221.out (by decide)) e_) hs_)); have n6_ := aM (blk_kept (bk BK241.out) hkp (fun hs_ => (fun e_ => (Kd.R_ne HO_262003.out BK241.out (by decide)) e_) hs_)); have n7_ := aM (blk_kept (bk BK246.out) hkp (fun hs_ => (fun e_ => (Kd.R_ne HO_262003.out BK246.out (by decide)) e_) hs_)); have n8_ := aM (blk_kept (bk BK253.out) hkp (fun hs_ => (fun e_ => (Kd.R_ne HO_262003.out BK253.out (by decide)) e_) hs_)); have n9_ := aM (blk_kept (bk BK261.out) hkp (fun hs_ => (fun e_ => (Kd.R_ne HO_262003.out BK261.out (by decide)) e_) hs_)); have n10_ := aM (hb); clear HO_242003 HO_247001; clear HO_254003 HO_262003; clear BK220 BK221; clear BK241 BK246; clear BK253 BK261 HB; have HO_242003 := n0_; have HO_247001 := n1_; have HO_254003 := n2_; have HO_262003 := n3_; have BK220 := n4_; have BK221 := n5_; have BK241 := n6_; have BK246 := n7_; have BK253 := n8_; have BK261 := n9_; have HB := n10_; clear n0_ n1_ n2_ n3_ n4_ n5_ n6_ n7_ n8_ n9_ n10_; (try clear hb); (try clear hkp); (try clear hy0); have hcz184_0 := cI BK261.out 0; have hcz184_1 := cI BK261.out 1; have hcz184_2 := cI BK261.out 2; have hcz184_3 := cI BK261.out 3; have hfz184_0 := bF BK261.out 0; have hfz184_1 := bF BK261.out 1; have hfz184_2 := bF BK261.out 2; have hfz184_3 := bF BK261.out 3) | ((with_reducible refine gate_callee (f := 38) rfl ?_); refine goesL_ (some 88) rfl rfl Try.func38 (by kernel_rfl) rfl #[.agg #[.int .i64 t254, .int .i64 t255, .int .i64 t256, .slice Ao74 t281.length co74], .int .i64 1] rfl (by (try simp only [List.map_toArray, List.map_cons, List.map_nil]); first | done | (rw [show t281.length = t257.length from (Kd.R_reads' HO_262003.out).1.symm] <;> rfl) | rfl | (simp only [List.length_drop, List.length_take]; rfl)) ?_; (with_reducible refine (laws_heldFrame.calls kj109 t254 t255 t256 _ _ t281 1 t282 _ ?side1 ?side2 A161.out).mono ?_); (case side1 => repeat (first | exact (Kd.R_reads' HO_262003.out).2.2 | (with_reducible refine Kd.C_alloc ?_ _) | (with_reducible refine Kd.C_drewN ?_ _) | (with_reducible refine Kd.C_drew ?_))); (case side2 => rw [show t281.length = t257.length from (Kd.R_reads' HO_262003.out).1.symm]; exact (Kd.R_reads' HO_262003.out).2.1); rintro e w185 ⟨rfl, hb⟩; refine ⟨_, rfl, ?_⟩; have n0_ := aM (kB (kr HO_242003.out) hb); have n1_ := aM (kB (kr HO_247001.out) hb); have n2_ := aM (kB (kr HO_254003.out) hb); have n3_ := aM (kB (kr HO_262003.out) hb); have n4_ := aM (bB (g := gb220) (o := .cells #[.int .i64 a0_0, .slice A0_1 l0_1.length c0_1] 44 (0, 0)) (bk BK220.out) hb); have n5_ := aM (bB (g := gb221) (o := .cells #[.int .i64 a1_0, .int .i64 a1_1, .int .i64 a1_2, .slice A1_3 l1_3.length c1_3] 45 (0, 0)) (bk BK221.out) hb); have n6_ := aM (bB (g := gb241) (o := .cells #[.int .i64 t234, .int .i64 t235, .int .i64 t236, .slice Ao44 t237.length co44] 28 (0, 0)) (bk BK241.out) hb); have n7_ := aM (bB (g := gb246) (o := .cells #[.int .i64 t242, .slice Ao54 t276.length co54] 26 (0, 0)) (bk BK246.out) hb); have n8_ := aM (bB (g := gb253) (o := .cells #[.int .i64 t247, .int .i64 t248, .int .i64 t249, .slice Ao64 t278.length co64] 28 (0, 0)) (bk BK253.out) hb); have n9_ := aM (bB (g := gb261) (o := .cells #[.int .i64 t254, .int .i64 t255, .int .i64 t256, .slice Ao74 t257.length co74] 28 (0, 0)) (bk BK261.out) hb); have n10_ := aM (bS (bl HB.out) hb); clear HO_242003 HO_247001; clear HO_254003 HO_262003; clear BK220 BK221; clear BK241 BK246; clear BK253 BK261 HB; have HO_242003 := n0_; have HO_247001 := n1_; have HO_254003 := n2_; have HO_262003 := n3_; have BK220 := n4_; have BK221 := n5_; have BK241 := n6_; have BK246 := n7_; have BK253 := n8_; have BK261 := n9_; have HB := n10_; clear n0_ n1_ n2_ n3_ n4_ n5_ n6_ n7_ n8_ n9_ n10_; (try clear hb)))
     have n0_ := aM (Kd.R_drew HO_242003.out)
     have n1_ := aM (Kd.R_drew HO_247001.out)
     have n2_ := aM (Kd.R_drew HO_254003.out)
     have n3_ := aM (Kd.R_drew HO_262003.out)
     have n4_ := aM (blk_drew BK220.out)
     have n5_ := aM (blk_drew BK221.out)
     have n6_ := aM (blk_drew BK241.out)
     have n7_ := aM (blk_drew BK246.out)
     have n8_ := aM (blk_drew BK253.out)
     have n9_ := aM (blk_drew BK261.out)
     have n10_ := aM (below_drew1 HB.out)
     clear HO_242003 HO_247001
     clear HO_254003 HO_262003
     clear BK220 BK221
     clear BK241 BK246
     clear BK253 BK261 HB
     have HO_242003 := n0_
     have HO_247001 := n1_
     have HO_254003 := n2_
     have HO_262003 := n3_
     have BK220 := n4_
     have BK221 := n5_
     have BK241 := n6_
     have BK246 := n7_
     have BK253 := n8_
     have BK261 := n9_
     have HB := n10_
     clear n0_ n1_ n2_ n3_ n4_ n5_ n6_ n7_ n8_ n9_ n10_
     refine start_ (n := 11) (S := fun w' => w'.cell? ⟨gb220, 0, none⟩ = some (.int .i64 a0_0) ∧ w'.cell? ⟨gb220, 1, none⟩ = some (.slice A0_1 l0_1.length c0_1) ∧ w'.cell? ⟨gb221, 0, none⟩ = some (.int .i64 a1_0) ∧ w'.cell? ⟨gb221, 1, none⟩ = some (.int .i64 a1_1) ∧ w'.cell? ⟨gb221, 2, none⟩ = some (.int .i64 a1_2) ∧ w'.cell? ⟨gb221, 3, none⟩ = some (.slice A1_3 l1_3.length c1_3)) (ds := []) #[U,U,U,U,U,U,U,U,U,U,U] (by kernel_rfl) rfl rfl ⟨cI BK220.out 0, cI BK220.out 1, cI BK221.out 0, cI BK221.out 1, cI BK221.out 2, cI BK221.out 3⟩ (fun hHeld => ?_); refine with_tabW laws_FnExactInside.tab31 laws_FnExactInside.bits31 (fun HT_ HW_ => ?_)
     generalize w185.drew = w186 at HO_242003 HO_247001 HO_254003 HO_262003 BK220 BK221 BK241 BK246 BK253 BK261 HB hHeld ⊢
     refine take_ (i := 0) (N := some 95) (v := ?_) (a' := ?_) #[Y,U,U,U,U,U,U,U,U,U,U] rfl rfl (take_ofW HT_.out HW_.out (by kernel_rfl)) (fun _ _ _ h => h) (Or.inl ⟨by rfl, ?_⟩) hHeld ?_ ?_
     rotate_left
     ·rintro w' ⟨s0, s1, s2, s3, s4, s5⟩
      go_simp
      with_reducible rfl
     rotate_left
     ·simp only [Act.put, sA, sZ, sS, i64_w, i32_w]
      rfl
     refine take_ (i := 2) (N := some 97) (v := ?_) (a' := ?_) #[Y,U,Y,U,U,U,U,U,U,U,U] rfl rfl (take_ofW HT_.out HW_.out (by kernel_rfl)) (fun _ _ _ h => h) (Or.inl ⟨by rfl, ?_⟩) hHeld ?_ ?_
     rotate_left
     ·rintro w' ⟨s0, s1, s2, s3, s4, s5⟩
      go_simp
      with_reducible rfl
     rotate_left
     ·simp only [Act.put, sA, sZ, sS, i64_w, i32_w]
      rfl
     refine join_ (σ := Value × Value × Value × Nat) 2 #[Y,Y,Y,Y,Y,Y,Y,Y,Y,U,U] (fun s_ => [(96, .agg #[.int .i64 t283, s_.1]), (98, .agg #[.int .i64 t287, .int .i64 t288, .int .i64 t289, s_.2.1]), (99, .tuple #[.agg #[.int .i64 t293, .int .i64 t294, .int .i64 t295, s_.2.2.1], .bool t299]), (15, .pointer (some ⟨s_.2.2.2, 0, none⟩)), (94, .tuple #[.agg #[.int .i64 t293, .int .i64 t294, .int .i64 t295, s_.2.2.1], .bool t299]), (100, .agg #[.int .i64 t293, .int .i64 t294, .int .i64 t295, s_.2.2.1]), (101, .bool t299)]) (fun s_ w' => (w'.cell? ⟨gb220, 0, none⟩ = some (.int .i64 a0_0) ∧ w'.cell? ⟨gb220, 1, none⟩ = some (.slice A0_1 l0_1.length c0_1) ∧ w'.cell? ⟨gb221, 0, none⟩ = some (.int .i64 a1_0) ∧ w'.cell? ⟨gb221, 1, none⟩ = some (.int .i64 a1_1) ∧ w'.cell? ⟨gb221, 2, none⟩ = some (.int .i64 a1_2) ∧ w'.cell? ⟨gb221, 3, none⟩ = some (.slice A1_3 l1_3.length c1_3)) ∧ (Kd.R (Kd.int .i64) 3 w' w.heap.size (fun k_ => some k_ ≠ (.slice Ao54 t276.length co54 : Value).ownBlock) s_.1 t284) ∧ (Kd.R (Kd.int .u8) 5 w' w.heap.size (fun k_ => some k_ ≠ (s_.2.2.1 : Value).ownBlock ∧ some k_ ≠ (.slice Ao44 t237.length co44 : Value).ownBlock ∧ some k_ ≠ (.slice Ao64 t278.length co64 : Value).ownBlock ∧ some k_ ≠ (.slice Ao74 t257.length co74 : Value).ownBlock) s_.2.1 t290) ∧ (Kd.R (Kd.int .u8) 5 w' w.heap.size (fun k_ => some k_ ≠ (s_.2.1 : Value).ownBlock ∧ some k_ ≠ (.slice Ao44 t237.length co44 : Value).ownBlock ∧ some k_ ≠ (.slice Ao64 t278.length co64 : Value).ownBlock ∧ some k_ ≠ (.slice Ao74 t257.length co74 : Value).ownBlock) s_.2.2.1 t296) ∧ (Kd.R (Kd.int .u8) 5 w' w.heap.size (fun k_ => some k_ ≠ (s_.2.1 : Value).ownBlock ∧ some k_ ≠ (s_.2.2.1 : Value).ownBlock ∧ some k_ ≠ (.slice Ao64 t278.length co64 : Value).ownBlock ∧ some k_ ≠ (.slice Ao74 t257.length co74 : Value).ownBlock) (.slice Ao44 t237.length co44) t237) ∧ (Kd.R (Kd.int .i64) 3 w' w.heap.size (fun k_ => some k_ ≠ (s_.1 : Value).ownBlock) (.slice Ao54 t276.length co54) t276) ∧ (Kd.R (Kd.int .u8) 5 w' w.heap.size (fun k_ => some k_ ≠ (s_.2.1 : Value).ownBlock ∧ some k_ ≠ (s_.2.2.1 : Value).ownBlock ∧ some k_ ≠ (.slice Ao44 t237.length co44 : Value).ownBlock ∧ some k_ ≠ (.slice Ao74 t257.length co74 : Value).ownBlock) (.slice Ao64 t278.length co64) t278) ∧ (Kd.R (Kd.int .u8) 5 w' w.heap.size (fun k_ => some k_ ≠ (s_.2.1 : Value).ownBlock ∧ some k_ ≠ (s_.2.2.1 : Value).ownBlock ∧ some k_ ≠ (.slice Ao44 t237.length co44 : Value).ownBlock ∧ some k_ ≠ (.slice Ao64 t278.length co64 : Value).ownBlock) (.slice Ao74 t257.length co74) t281) ∧ (w'.heap[gb220]? = some (.cells #[.int .i64 a0_0, .slice A0_1 l0_1.length c0_1] 44 (0, 0))) ∧ (w'.heap[gb221]? = some (.cells #[.int .i64 a1_0, .int .i64 a1_1, .int .i64 a1_2, .slice A1_3 l1_3.length c1_3] 45 (0, 0))) ∧ (w'.heap[gb241]? = some (.cells #[.int .i64 t234, .int .i64 t235, .int .i64 t236, .slice Ao44 t237.length co44] 28 (0, 0))) ∧ (w'.heap[gb246]? = some (.cells #[.int .i64 t242, .slice Ao54 t276.length co54] 26 (0, 0))) ∧ (w'.heap[gb253]? = some (.cells #[.int .i64 t247, .int .i64 t248, .int .i64 t249, .slice Ao64 t278.length co64] 28 (0, 0))) ∧ (w'.heap[gb261]? = some (.cells #[.int .i64 t254, .int .i64 t255, .int .i64 t256, .slice Ao74 t257.length co74] 28 (0, 0))) ∧ (w'.heap[s_.2.2.2]? = some (.cells #[.int .i64 0, .int .i64 0, .int .i64 0, .slice none 0 0] 28 (0, 0))) ∧ (w.heap.size ≤ s_.2.2.2) ∧ (w.heap.size ≤ s_.2.2.2) ∧ (gb220 ≠ s_.2.2.2) ∧ (s_.2.2.2 ≠ gb220) ∧ (gb221 ≠ s_.2.2.2) ∧ (s_.2.2.2 ≠ gb221) ∧ (gb241 ≠ s_.2.2.2) ∧ (s_.2.2.2 ≠ gb241) ∧ (gb246 ≠ s_.2.2.2) ∧ (s_.2.2.2 ≠ gb246) ∧ (gb253 ≠ s_.2.2.2) ∧ (s_.2.2.2 ≠ gb253) ∧ (gb261 ≠ s_.2.2.2) ∧ (s_.2.2.2 ≠ gb261) ∧ (Below w.heap.size w w')) ?_ ?_
     rotate_left
     ·intro hCont
      refine two_ (i := 1) (j := 8) (Ni := some 96) (Nj := some 15) #[Y,Y,Y,U,U,U,U,U,U,U,U] #[Y,U,Y,U,U,U,U,U,Y,U,U] rfl rfl rfl rfl (two_of HT_.out (by kernel_rfl)) (by decide) (by decide) (fun K hK => ?_) (fun K hK => ?_)
      ·skip
       refine goes_ Try.func32 (by kernel_rfl) rfl #[.agg #[.int .i64 a0_0, .slice A0_1 l0_1.length c0_1]] (by rfl) rfl rfl xR ?_
       with_reducible refine (laws_toMember.calls kj109 a0_0 _ _ l0_1 t283 t284 _ ?side1 ?side2 A173.out).mono ?_
       (case side1 => repeat (first | exact (cB HR0_1.out HB.out) | (with_reducible refine Kd.C_alloc ?_ _) | (with_reducible refine Kd.C_drewN ?_ _) | (with_reducible refine Kd.C_drew ?_)))
       (case side2 => exact HC0_1.out)
       rintro e w187 ⟨v285, rfl, ho0, hb⟩
       refine ⟨_, rfl, ?_⟩
       have n0_ := aM (kB (kr HO_242003.out) hb)
       have n1_ := aM (Kd.R_elder' (kr HO_247001.out) (Kd.R_base ho0) hb)
       have n2_ := aM (kB (kr HO_254003.out) hb)
       have n3_ := aM (kB (kr HO_262003.out) hb)
       have n4_ := aM (Kd.R_lower (Kd.R_new' ho0 (Kd.R_lt (kr HO_247001.out))) (below_size (bl HB.out)))
       have n5_ := aM (bB (g := gb220) (o := .cells #[.int .i64 a0_0, .slice A0_1 l0_1.length c0_1] 44 (0, 0)) (bk BK220.out) hb)
       have n6_ := aM (bB (g := gb221) (o := .cells #[.int .i64 a1_0, .int .i64 a1_1, .int .i64 a1_2, .slice A1_3 l1_3.length c1_3] 45 (0, 0)) (bk BK221.out) hb)
       have n7_ := aM (bB (g := gb241) (o := .cells #[.int .i64 t234, .int .i64 t235, .int .i64 t236, .slice Ao44 t237.length co44] 28 (0, 0)) (bk BK241.out) hb)
       have n8_ := aM (bB (g := gb246) (o := .cells #[.int .i64 t242, .slice Ao54 t276.length co54] 26 (0, 0)) (bk BK246.out) hb)
       have n9_ := aM (bB (g := gb253) (o := .cells #[.int .i64 t247, .int .i64 t248, .int .i64 t249, .slice Ao64 t278.length co64] 28 (0, 0)) (bk BK253.out) hb)
       have n10_ := aM (bB (g := gb261) (o := .cells #[.int .i64 t254, .int .i64 t255, .int .i64 t256, .slice Ao74 t257.length co74] 28 (0, 0)) (bk BK261.out) hb)
       have n11_ := aM (bS (bl HB.out) hb)
       clear HO_242003 HO_247001
       clear HO_254003 HO_262003
       clear BK220 BK221
       clear BK241 BK246
       clear BK253 BK261 HB
       have HO_242003 := n0_
       have HO_247001 := n1_
       have HO_254003 := n2_
       have HO_262003 := n3_
       have HO286 := n4_
       have BK220 := n5_
       have BK221 := n6_
       have BK241 := n7_
       have BK246 := n8_
       have BK253 := n9_
       have BK261 := n10_
       have HB := n11_
       clear n0_ n1_ n2_ n3_ n4_ n5_ n6_ n7_ n8_ n9_ n10_ n11_
       (try clear hb)
       (try clear hb2)
       (try clear hk)
       (try clear hi)
       (try clear ho0)
       refine hK.out _ _ ⟨cI BK220.out 0, cI BK220.out 1, cI BK221.out 0, cI BK221.out 1, cI BK221.out 2, cI BK221.out 3⟩ (fun hHeld => ?_)
       clear hK K
       refine norm_ (a' := ?_) ?_ ?_
       rotate_left
       ·show Act.put _ (some 96) _ = _
        simp only [Act.put, sA, sZ, sS, i64_w, i32_w]
        rfl
       refine two_ (i := 3) (j := 8) (Ni := some 98) (Nj := some 15) #[Y,Y,Y,Y,U,U,U,U,U,U,U] #[Y,Y,Y,U,U,U,U,U,Y,U,U] rfl rfl rfl rfl (two_of HT_.out (by kernel_rfl)) (by decide) (by decide) (fun K hK => ?_) (fun K hK => ?_)
       ·skip
        refine goes_ Try.func33 (by kernel_rfl) rfl #[.agg #[.int .i64 a1_0, .int .i64 a1_1, .int .i64 a1_2, .slice A1_3 l1_3.length c1_3]] (by rfl) rfl rfl xR ?_
        with_reducible refine (laws_toFrame.calls kj109 a1_0 a1_1 a1_2 _ _ l1_3 t287 t288 t289 t290 _ ?side1 ?side2 A174.out).mono ?_
        (case side1 => repeat (first | exact (cB HR1_3.out HB.out) | (with_reducible refine Kd.C_alloc ?_ _) | (with_reducible refine Kd.C_drewN ?_ _) | (with_reducible refine Kd.C_drew ?_)))
        (case side2 => exact HC1_3.out)
        rintro e w188 ⟨v291, rfl, ho0, hb⟩
        refine ⟨_, rfl, ?_⟩
        have n0_ := aM (Kd.R_elder' (kr HO_242003.out) (Kd.R_base ho0) hb)
        have n1_ := aM (kB (kr HO_247001.out) hb)
        have n2_ := aM (Kd.R_elder' (kr HO_254003.out) (Kd.R_base ho0) hb)
        have n3_ := aM (Kd.R_elder' (kr HO_262003.out) (Kd.R_base ho0) hb)
        have n4_ := aM (kB (kr HO286.out) hb)
        have n5_ := aM (Kd.R_lower (Kd.R_new' (Kd.R_new' (Kd.R_new' ho0 (Kd.R_lt (kr HO_242003.out))) (Kd.R_lt (kr HO_254003.out))) (Kd.R_lt (kr HO_262003.out))) (below_size (bl HB.out)))
        have n6_ := aM (bB (g := gb220) (o := .cells #[.int .i64 a0_0, .slice A0_1 l0_1.length c0_1] 44 (0, 0)) (bk BK220.out) hb)
        have n7_ := aM (bB (g := gb221) (o := .cells #[.int .i64 a1_0, .int .i64 a1_1, .int .i64 a1_2, .slice A1_3 l1_3.length c1_3] 45 (0, 0)) (bk BK221.out) hb)
        have n8_ := aM (bB (g := gb241) (o := .cells #[.int .i64 t234, .int .i64 t235, .int .i64 t236, .slice Ao44 t237.length co44] 28 (0, 0)) (bk BK241.out) hb)
        have n9_ := aM (bB (g := gb246) (o := .cells #[.int .i64 t242, .slice Ao54 t276.length co54] 26 (0, 0)) (bk BK246.out) hb)
        have n10_ := aM (bB (g := gb253) (o := .cells #[.int .i64 t247, .int .i64 t248, .int .i64 t249, .slice Ao64 t278.length co64] 28 (0, 0)) (bk BK253.out) hb)
        have n11_ := aM (bB (g := gb261) (o := .cells #[.int .i64 t254, .int .i64 t255, .int .i64 t256, .slice Ao74 t257.length co74] 28 (0, 0)) (bk BK261.out) hb)
        have n12_ := aM (bS (bl HB.out) hb)
        clear HO_242003 HO_247001
        clear HO_254003 HO_262003
        clear HO286 BK220
        clear BK221 BK241
        clear BK246 BK253
        clear BK261 HB
        have HO_242003 := n0_
        have HO_247001 := n1_
        have HO_254003 := n2_
        have HO_262003 := n3_
        have HO286 := n4_
        have HO292 := n5_
        have BK220 := n6_
        have BK221 := n7_
        have BK241 := n8_
        have BK246 := n9_
        have BK253 := n10_
        have BK261 := n11_
        have HB := n12_
        clear n0_ n1_ n2_ n3_ n4_ n5_ n6_ n7_ n8_ n9_ n10_ n11_ n12_
        (try clear hb)
        (try clear hb2)
        (try clear hk)
        (try clear hi)
        (try clear ho0)
        obtain ⟨Ao189, co189, eo189⟩ := Kd.R_slice HO286.out
        (first | subst eo189 | (injection eo189 with f1_ f2_ f3_; have f4_ := f1_.symm; have f5_ := f3_.symm; clear f1_ f2_ f3_; subst f4_; subst f5_))
        obtain ⟨Ao190, co190, eo190⟩ := Kd.R_slice HO292.out
        (first | subst eo190 | (injection eo190 with f1_ f2_ f3_; have f4_ := f1_.symm; have f5_ := f3_.symm; clear f1_ f2_ f3_; subst f4_; subst f5_))
        refine hK.out _ _ ⟨cI BK220.out 0, cI BK220.out 1, cI BK221.out 0, cI BK221.out 1, cI BK221.out 2, cI BK221.out 3⟩ (fun hHeld => ?_)
        clear hK K
        refine norm_ (a' := ?_) ?_ ?_
        rotate_left
        ·show Act.put _ (some 98) _ = _
         simp only [Act.put, sA, sZ, sS, i64_w, i32_w]
         rfl
        refine two_ (i := 4) (j := 8) (Ni := some 99) (Nj := some 15) #[Y,Y,Y,Y,Y,U,U,U,U,U,U] #[Y,Y,Y,Y,U,U,U,U,Y,U,U] rfl rfl rfl rfl (two_of HT_.out (by kernel_rfl)) (by decide) (by decide) (fun K hK => ?_) (fun K hK => ?_)
        ·skip
         refine goes_ Try.func17 (by kernel_rfl) rfl #[.agg #[.int .i64 t283, .slice Ao189 t284.length co189], .agg #[.int .i64 t287, .int .i64 t288, .int .i64 t289, .slice Ao190 t290.length co190]] (by rfl) rfl rfl xR ?_
         with_reducible refine (impl_Inside.calls kj109 t283 _ _ t284 t287 t288 t289 _ _ t290 t293 t294 t295 t296 t299 _ ?side1 ?side2 ?side3 ?side4 A175.out).mono ?_
         (case side1 => repeat (first | exact (Kd.R_reads' HO286.out).2.2 | (with_reducible refine Kd.C_alloc ?_ _) | (with_reducible refine Kd.C_drewN ?_ _) | (with_reducible refine Kd.C_drew ?_)))
         (case side2 => exact (Kd.R_reads' HO286.out).2.1)
         (case side3 => repeat (first | exact (Kd.R_reads' HO292.out).2.2 | (with_reducible refine Kd.C_alloc ?_ _) | (with_reducible refine Kd.C_drewN ?_ _) | (with_reducible refine Kd.C_drew ?_)))
         (case side4 => exact (Kd.R_reads' HO292.out).2.1)
         rintro e w191 ⟨v297, rfl, ho0, hb⟩
         refine ⟨_, rfl, ?_⟩
         have n0_ := aM (Kd.R_elder' (kr HO_242003.out) (Kd.R_base ho0) hb)
         have n1_ := aM (kB (kr HO_247001.out) hb)
         have n2_ := aM (Kd.R_elder' (kr HO_254003.out) (Kd.R_base ho0) hb)
         have n3_ := aM (Kd.R_elder' (kr HO_262003.out) (Kd.R_base ho0) hb)
         have n4_ := aM (kB (kr HO286.out) hb)
         have n5_ := aM (Kd.R_elder' (kr HO292.out) (Kd.R_base ho0) hb)
         have n6_ := aM (Kd.R_lower (Kd.R_new' (Kd.R_new' (Kd.R_new' (Kd.R_new' ho0 (Kd.R_lt (kr HO_242003.out))) (Kd.R_lt (kr HO_254003.out))) (Kd.R_lt (kr HO_262003.out))) (Kd.R_lt (kr HO292.out))) (below_size (bl HB.out)))
         have n7_ := aM (bB (g := gb220) (o := .cells #[.int .i64 a0_0, .slice A0_1 l0_1.length c0_1] 44 (0, 0)) (bk BK220.out) hb)
         have n8_ := aM (bB (g := gb221) (o := .cells #[.int .i64 a1_0, .int .i64 a1_1, .int .i64 a1_2, .slice A1_3 l1_3.length c1_3] 45 (0, 0)) (bk BK221.out) hb)
         have n9_ := aM (bB (g := gb241) (o := .cells #[.int .i64 t234, .int .i64 t235, .int .i64 t236, .slice Ao44 t237.length co44] 28 (0, 0)) (bk BK241.out) hb)
         have n10_ := aM (bB (g := gb246) (o := .cells #[.int .i64 t242, .slice Ao54 t276.length co54] 26 (0, 0)) (bk BK246.out) hb)
         have n11_ := aM (bB (g := gb253) (o := .cells #[.int .i64 t247, .int .i64 t248, .int .i64 t249, .slice Ao64 t278.length co64] 28 (0, 0)) (bk BK253.out) hb)
         have n12_ := aM (bB (g := gb261) (o := .cells #[.int .i64 t254, .int .i64 t255, .int .i64 t256, .slice Ao74 t257.length co74] 28 (0, 0)) (bk BK261.out) hb)
         have n13_ := aM (bS (bl HB.out) hb)
         clear HO_242003 HO_247001
         clear HO_254003 HO_262003
         clear HO286 HO292
         clear BK220 BK221
         clear BK241 BK246
         clear BK253 BK261 HB
         have HO_242003 := n0_
         have HO_247001 := n1_
         have HO_254003 := n2_
         have HO_262003 := n3_
         have HO286 := n4_
         have HO292 := n5_
         have HO298 := n6_
         have BK220 := n7_
         have BK221 := n8_
         have BK241 := n9_
         have BK246 := n10_
         have BK253 := n11_
         have BK261 := n12_
         have HB := n13_
         clear n0_ n1_ n2_ n3_ n4_ n5_ n6_ n7_ n8_ n9_ n10_ n11_ n12_ n13_
         (try clear hb)
         (try clear hb2)
         (try clear hk)
         (try clear hi)
         (try clear ho0)
         refine hK.out _ _ ⟨cI BK220.out 0, cI BK220.out 1, cI BK221.out 0, cI BK221.out 1, cI BK221.out 2, cI BK221.out 3⟩ (fun hHeld => ?_)
         clear hK K
         refine norm_ (a' := ?_) ?_ ?_
         rotate_left
         ·show Act.put _ (some 99) _ = _
          simp only [Act.put, sA, sZ, sS, i64_w, i32_w]
          rfl
         refine pure_ (i := 5) (N := some 94) (v := ?_) (a' := ?_) #[Y,Y,Y,Y,Y,Y,U,U,U,U,U] rfl rfl (any_of HT_.out (by kernel_rfl)) (fun _ _ _ h => h) (Or.inl ⟨by rfl, ?_⟩) ?_ ?_
         rotate_left
         ·intro w'
          go_simp
          with_reducible rfl
         rotate_left
         ·simp only [Act.put, sA, sZ, sS, i64_w, i32_w]
          rfl
         refine pure_ (i := 6) (N := some 100) (v := ?_) (a' := ?_) #[Y,Y,Y,Y,Y,Y,Y,U,U,U,U] rfl rfl (any_of HT_.out (by kernel_rfl)) (fun _ _ _ h => h) (Or.inl ⟨by rfl, ?_⟩) ?_ ?_
         rotate_left
         ·intro w'
          go_simp
          with_reducible rfl
         rotate_left
         ·simp only [Act.put, sA, sZ, sS, i64_w, i32_w]
          rfl
         refine pure_ (i := 7) (N := some 101) (v := ?_) (a' := ?_) #[Y,Y,Y,Y,Y,Y,Y,Y,U,U,U] rfl rfl (any_of HT_.out (by kernel_rfl)) (fun _ _ _ h => h) (Or.inl ⟨by rfl, ?_⟩) ?_ ?_
         rotate_left
         ·intro w'
          go_simp
          with_reducible rfl
         rotate_left
         ·simp only [Act.put, sA, sZ, sS, i64_w, i32_w]
          rfl
         refine one_ (i := 8) (N := some 15) #[Y,Y,Y,Y,Y,Y,Y,Y,Y,U,U] rfl rfl (one_of HT_.out (by kernel_rfl)) (by decide) (fun K hK => ?_)
         refine box_step ?hg (N := 15) ?hd (cs := #[.int .i64 0, .int .i64 0, .int .i64 0, .slice none 0 0]) (t := 28) ?hr ?_; (case hd => rfl); (case hg => rfl); (case hr => first | (go_simp; done) | (go_simp; rfl))
         intro gb300 hg w192 hbox hb
         have n0_ := aM (kB (kr HO_242003.out) hb)
         have n1_ := aM (kB (kr HO_247001.out) hb)
         have n2_ := aM (kB (kr HO_254003.out) hb)
         have n3_ := aM (kB (kr HO_262003.out) hb)
         have n4_ := aM (kB (kr HO286.out) hb)
         have n5_ := aM (kB (kr HO292.out) hb)
         have n6_ := aM (kB (kr HO298.out) hb)
         have n7_ := aM (bB (g := gb220) (o := .cells #[.int .i64 a0_0, .slice A0_1 l0_1.length c0_1] 44 (0, 0)) (bk BK220.out) hb)
         have n8_ := aM (bB (g := gb221) (o := .cells #[.int .i64 a1_0, .int .i64 a1_1, .int .i64 a1_2, .slice A1_3 l1_3.length c1_3] 45 (0, 0)) (bk BK221.out) hb)
         have n9_ := aM (bB (g := gb241) (o := .cells #[.int .i64 t234, .int .i64 t235, .int .i64 t236, .slice Ao44 t237.length co44] 28 (0, 0)) (bk BK241.out) hb)
         have n10_ := aM (bB (g := gb246) (o := .cells #[.int .i64 t242, .slice Ao54 t276.length co54] 26 (0, 0)) (bk BK246.out) hb)
         have n11_ := aM (bB (g := gb253) (o := .cells #[.int .i64 t247, .int .i64 t248, .int .i64 t249, .slice Ao64 t278.length co64] 28 (0, 0)) (bk BK253.out) hb)
         have n12_ := aM (bB (g := gb261) (o := .cells #[.int .i64 t254, .int .i64 t255, .int .i64 t256, .slice Ao74 t257.length co74] 28 (0, 0)) (bk BK261.out) hb)
         have n13_ := aM (bS (bl HB.out) hb)
         have n14_ := aM (hbox)
         have n15_ := aM ((by rw [hg]; exact (below_size (bl HB.out)) : w.heap.size ≤ gb300))
         have n16_ := aM ((by rw [hg]; exact (below_size (bl HB.out)) : w.heap.size ≤ gb300))
         have n17_ := aM ((by rw [hg]; exact Nat.ne_of_lt (blk_lt (g := gb220) (o := .cells #[.int .i64 a0_0, .slice A0_1 l0_1.length c0_1] 44 (0, 0)) (bk BK220.out)) : gb220 ≠ gb300))
         have n18_ := aM ((by rw [hg]; exact Nat.ne_of_gt (blk_lt (g := gb220) (o := .cells #[.int .i64 a0_0, .slice A0_1 l0_1.length c0_1] 44 (0, 0)) (bk BK220.out)) : gb300 ≠ gb220))
         have n19_ := aM ((by rw [hg]; exact Nat.ne_of_lt (blk_lt (g := gb221) (o := .cells #[.int .i64 a1_0, .int .i64 a1_1, .int .i64 a1_2, .slice A1_3 l1_3.length c1_3] 45 (0, 0)) (bk BK221.out)) : gb221 ≠ gb300))
         have n20_ := aM ((by rw [hg]; exact Nat.ne_of_gt (blk_lt (g := gb221) (o := .cells #[.int .i64 a1_0, .int .i64 a1_1, .int .i64 a1_2, .slice A1_3 l1_3.length c1_3] 45 (0, 0)) (bk BK221.out)) : gb300 ≠ gb221))
         have n21_ := aM ((by rw [hg]; exact Nat.ne_of_lt (blk_lt (g := gb241) (o := .cells #[.int .i64 t234, .int .i64 t235, .int .i64 t236, .slice Ao44 t237.length co44] 28 (0, 0)) (bk BK241.out)) : gb241 ≠ gb300))
         have n22_ := aM ((by rw [hg]; exact Nat.ne_of_gt (blk_lt (g := gb241) (o := .cells #[.int .i64 t234, .int .i64 t235, .int .i64 t236, .slice Ao44 t237.length co44] 28 (0, 0)) (bk BK241.out)) : gb300 ≠ gb241))
         have n23_ := aM ((by rw [hg]; exact Nat.ne_of_lt (blk_lt (g := gb246) (o := .cells #[.int .i64 t242, .slice Ao54 t276.length co54] 26 (0, 0)) (bk BK246.out)) : gb246 ≠ gb300))
         have n24_ := aM ((by rw [hg]; exact Nat.ne_of_gt (blk_lt (g := gb246) (o := .cells #[.int .i64 t242, .slice Ao54 t276.length co54] 26 (0, 0)) (bk BK246.out)) : gb300 ≠ gb246))
         have n25_ := aM ((by rw [hg]; exact Nat.ne_of_lt (blk_lt (g := gb253) (o := .cells #[.int .i64 t247, .int .i64 t248, .int .i64 t249, .slice Ao64 t278.length co64] 28 (0, 0)) (bk BK253.out)) : gb253 ≠ gb300))
         have n26_ := aM ((by rw [hg]; exact Nat.ne_of_gt (blk_lt (g := gb253) (o := .cells #[.int .i64 t247, .int .i64 t248, .int .i64 t249, .slice Ao64 t278.length co64] 28 (0, 0)) (bk BK253.out)) : gb300 ≠ gb253))
         have n27_ := aM ((by rw [hg]; exact Nat.ne_of_lt (blk_lt (g := gb261) (o := .cells #[.int .i64 t254, .int .i64 t255, .int .i64 t256, .slice Ao74 t257.length co74] 28 (0, 0)) (bk BK261.out)) : gb261 ≠ gb300))
         have n28_ := aM ((by rw [hg]; exact Nat.ne_of_gt (blk_lt (g := gb261) (o := .cells #[.int .i64 t254, .int .i64 t255, .int .i64 t256, .slice Ao74 t257.length co74] 28 (0, 0)) (bk BK261.out)) : gb300 ≠ gb261))
         clear HO_242003 HO_247001
         clear HO_254003 HO_262003
         clear HO286 HO292
         clear HO298 BK220
         clear BK221 BK241
         clear BK246 BK253
         clear BK261 HB
         have HO_242003 := n0_
         have HO_247001 := n1_
         have HO_254003 := n2_
         have HO_262003 := n3_
         have HO286 := n4_
         have HO292 := n5_
         have HO298 := n6_
         have BK220 := n7_
         have BK221 := n8_
         have BK241 := n9_
         have BK246 := n10_
         have BK253 := n11_
         have BK261 := n12_
         have HB := n13_
         have BK300 := n14_
         have GW300 := n15_
         have GE300 := n16_
         have NB220_300 := n17_
         have NB300_220 := n18_
         have NB221_300 := n19_
         have NB300_221 := n20_
         have NB241_300 := n21_
         have NB300_241 := n22_
         have NB246_300 := n23_
         have NB300_246 := n24_
         have NB253_300 := n25_
         have NB300_253 := n26_
         have NB261_300 := n27_
         have NB300_261 := n28_
         clear n0_ n1_ n2_ n3_ n4_ n5_ n6_ n7_ n8_ n9_ n10_ n11_ n12_ n13_ n14_ n15_ n16_ n17_ n18_ n19_ n20_ n21_ n22_ n23_ n24_ n25_ n26_ n27_ n28_
         clear hb hbox hg
         refine hK.out _ _ ⟨cI BK220.out 0, cI BK220.out 1, cI BK221.out 0, cI BK221.out 1, cI BK221.out 2, cI BK221.out 3⟩ (fun hHeld => ?_)
         clear hK K
         refine norm_ (a' := ?_) ?_ ?_
         rotate_left
         ·show Act.put _ (some 15) _ = _
          simp only [Act.put, sA, sZ, sS, i64_w, i32_w]
          rfl
         exact norm_ (by simp only [putAll, Act.put, sA, sZ, sS]) (hCont (.slice Ao189 t284.length co189, .slice Ao190 t290.length co190, v297, gb300) _ ⟨hHeld, (kr (Kd.R_mono HO286.out (fun _ hk => hk.2))), (kr (Kd.R_mono HO292.out (fun _ hk => ⟨hk.2, ⟨hk.1.1.1.2, ⟨hk.1.1.2, hk.1.2⟩⟩⟩))), (kr (Kd.R_mono HO298.out (fun _ hk => ⟨hk.2, ⟨hk.1.1.1.2, ⟨hk.1.1.2, hk.1.2⟩⟩⟩))), (kr (Kd.R_mono HO_242003.out (fun _ hk => ⟨hk.1.2, ⟨hk.2, ⟨hk.1.1.1, hk.1.1.2⟩⟩⟩))), (kr (Kd.R_mono HO_247001.out (fun _ hk => hk.2))), (kr (Kd.R_mono HO_254003.out (fun _ hk => ⟨hk.1.2, ⟨hk.2, ⟨hk.1.1.1, hk.1.1.2⟩⟩⟩))), (kr (Kd.R_mono HO_262003.out (fun _ hk => ⟨hk.1.2, ⟨hk.2, ⟨hk.1.1.1, hk.1.1.2⟩⟩⟩))), (bk BK220.out), (bk BK221.out), (bk BK241.out), (bk BK246.out), (bk BK253.out), (bk BK261.out), (bk BK300.out), GW300.out, GE300.out, NB220_300.out, NB300_220.out, NB221_300.out, NB300_221.out, NB241_300.out, NB300_241.out, NB246_300.out, NB300_246.out, NB253_300.out, NB300_253.out, NB261_300.out, NB300_261.out, (bl HB.out)⟩)
        ·skip
         refine box_step ?hg (N := 15) ?hd (cs := #[.int .i64 0, .int .i64 0, .int .i64 0, .slice none 0 0]) (t := 28) ?hr ?_; (case hd => rfl); (case hg => rfl); (case hr => first | (go_simp; done) | (go_simp; rfl))
         intro gb300 hg w189 hbox hb
         have n0_ := aM (kB (kr HO_242003.out) hb)
         have n1_ := aM (kB (kr HO_247001.out) hb)
         have n2_ := aM (kB (kr HO_254003.out) hb)
         have n3_ := aM (kB (kr HO_262003.out) hb)
         have n4_ := aM (kB (kr HO286.out) hb)
         have n5_ := aM (kB (kr HO292.out) hb)
         have n6_ := aM (bB (g := gb220) (o := .cells #[.int .i64 a0_0, .slice A0_1 l0_1.length c0_1] 44 (0, 0)) (bk BK220.out) hb)
         have n7_ := aM (bB (g := gb221) (o := .cells #[.int .i64 a1_0, .int .i64 a1_1, .int .i64 a1_2, .slice A1_3 l1_3.length c1_3] 45 (0, 0)) (bk BK221.out) hb)
         have n8_ := aM (bB (g := gb241) (o := .cells #[.int .i64 t234, .int .i64 t235, .int .i64 t236, .slice Ao44 t237.length co44] 28 (0, 0)) (bk BK241.out) hb)
         have n9_ := aM (bB (g := gb246) (o := .cells #[.int .i64 t242, .slice Ao54 t276.length co54] 26 (0, 0)) (bk BK246.out) hb)
         have n10_ := aM (bB (g := gb253) (o := .cells #[.int .i64 t247, .int .i64 t248, .int .i64 t249, .slice Ao64 t278.length co64] 28 (0, 0)) (bk BK253.out) hb)
         have n11_ := aM (bB (g := gb261) (o := .cells #[.int .i64 t254, .int .i64 t255, .int .i64 t256, .slice Ao74 t257.length co74] 28 (0, 0)) (bk BK261.out) hb)
         have n12_ := aM (bS (bl HB.out) hb)
         have n13_ := aM (hbox)
         have n14_ := aM ((by rw [hg]; exact (below_size (bl HB.out)) : w.heap.size ≤ gb300))
         have n15_ := aM ((by rw [hg]; exact (below_size (bl HB.out)) : w.heap.size ≤ gb300))
         have n16_ := aM ((by rw [hg]; exact Nat.ne_of_lt (blk_lt (g := gb220) (o := .cells #[.int .i64 a0_0, .slice A0_1 l0_1.length c0_1] 44 (0, 0)) (bk BK220.out)) : gb220 ≠ gb300))
         have n17_ := aM ((by rw [hg]; exact Nat.ne_of_gt (blk_lt (g := gb220) (o := .cells #[.int .i64 a0_0, .slice A0_1 l0_1.length c0_1] 44 (0, 0)) (bk BK220.out)) : gb300 ≠ gb220))
         have n18_ := aM ((by rw [hg]; exact Nat.ne_of_lt (blk_lt (g := gb221) (o := .cells #[.int .i64 a1_0, .int .i64 a1_1, .int .i64 a1_2, .slice A1_3 l1_3.length c1_3] 45 (0, 0)) (bk BK221.out)) : gb221 ≠ gb300))
         have n19_ := aM ((by rw [hg]; exact Nat.ne_of_gt (blk_lt (g := gb221) (o := .cells #[.int .i64 a1_0, .int .i64 a1_1, .int .i64 a1_2, .slice A1_3 l1_3.length c1_3] 45 (0, 0)) (bk BK221.out)) : gb300 ≠ gb221))
         have n20_ := aM ((by rw [hg]; exact Nat.ne_of_lt (blk_lt (g := gb241) (o := .cells #[.int .i64 t234, .int .i64 t235, .int .i64 t236, .slice Ao44 t237.length co44] 28 (0, 0)) (bk BK241.out)) : gb241 ≠ gb300))
         have n21_ := aM ((by rw [hg]; exact Nat.ne_of_gt (blk_lt (g := gb241) (o := .cells #[.int .i64 t234, .int .i64 t235, .int .i64 t236, .slice Ao44 t237.length co44] 28 (0, 0)) (bk BK241.out)) : gb300 ≠ gb241))
         have n22_ := aM ((by rw [hg]; exact Nat.ne_of_lt (blk_lt (g := gb246) (o := .cells #[.int .i64 t242, .slice Ao54 t276.length co54] 26 (0, 0)) (bk BK246.out)) : gb246 ≠ gb300))
         have n23_ := aM ((by rw [hg]; exact Nat.ne_of_gt (blk_lt (g := gb246) (o := .cells #[.int .i64 t242, .slice Ao54 t276.length co54] 26 (0, 0)) (bk BK246.out)) : gb300 ≠ gb246))
         have n24_ := aM ((by rw [hg]; exact Nat.ne_of_lt (blk_lt (g := gb253) (o := .cells #[.int .i64 t247, .int .i64 t248, .int .i64 t249, .slice Ao64 t278.length co64] 28 (0, 0)) (bk BK253.out)) : gb253 ≠ gb300))
         have n25_ := aM ((by rw [hg]; exact Nat.ne_of_gt (blk_lt (g := gb253) (o := .cells #[.int .i64 t247, .int .i64 t248, .int .i64 t249, .slice Ao64 t278.length co64] 28 (0, 0)) (bk BK253.out)) : gb300 ≠ gb253))
         have n26_ := aM ((by rw [hg]; exact Nat.ne_of_lt (blk_lt (g := gb261) (o := .cells #[.int .i64 t254, .int .i64 t255, .int .i64 t256, .slice Ao74 t257.length co74] 28 (0, 0)) (bk BK261.out)) : gb261 ≠ gb300))
         have n27_ := aM ((by rw [hg]; exact Nat.ne_of_gt (blk_lt (g := gb261) (o := .cells #[.int .i64 t254, .int .i64 t255, .int .i64 t256, .slice Ao74 t257.length co74] 28 (0, 0)) (bk BK261.out)) : gb300 ≠ gb261))
         clear HO_242003 HO_247001
         clear HO_254003 HO_262003
         clear HO286 HO292
         clear BK220 BK221
         clear BK241 BK246
         clear BK253 BK261 HB
         have HO_242003 := n0_
         have HO_247001 := n1_
         have HO_254003 := n2_
         have HO_262003 := n3_
         have HO286 := n4_
         have HO292 := n5_
         have BK220 := n6_
         have BK221 := n7_
         have BK241 := n8_
         have BK246 := n9_
         have BK253 := n10_
         have BK261 := n11_
         have HB := n12_
         have BK300 := n13_
         have GW300 := n14_
         have GE300 := n15_
         have NB220_300 := n16_
         have NB300_220 := n17_
         have NB221_300 := n18_
         have NB300_221 := n19_
         have NB241_300 := n20_
         have NB300_241 := n21_
         have NB246_300 := n22_
         have NB300_246 := n23_
         have NB253_300 := n24_
         have NB300_253 := n25_
         have NB261_300 := n26_
         have NB300_261 := n27_
         clear n0_ n1_ n2_ n3_ n4_ n5_ n6_ n7_ n8_ n9_ n10_ n11_ n12_ n13_ n14_ n15_ n16_ n17_ n18_ n19_ n20_ n21_ n22_ n23_ n24_ n25_ n26_ n27_
         clear hb hbox hg
         obtain ⟨Ao190, co190, eo190⟩ := Kd.R_slice HO286.out
         (first | subst eo190 | (injection eo190 with f1_ f2_ f3_; have f4_ := f1_.symm; have f5_ := f3_.symm; clear f1_ f2_ f3_; subst f4_; subst f5_))
         obtain ⟨Ao191, co191, eo191⟩ := Kd.R_slice HO292.out
         (first | subst eo191 | (injection eo191 with f1_ f2_ f3_; have f4_ := f1_.symm; have f5_ := f3_.symm; clear f1_ f2_ f3_; subst f4_; subst f5_))
         refine hK.out _ _ ⟨cI BK220.out 0, cI BK220.out 1, cI BK221.out 0, cI BK221.out 1, cI BK221.out 2, cI BK221.out 3⟩ (fun hHeld => ?_)
         clear hK K
         refine norm_ (a' := ?_) ?_ ?_
         rotate_left
         ·show Act.put _ (some 15) _ = _
          simp only [Act.put, sA, sZ, sS, i64_w, i32_w]
          rfl
         refine one_ (i := 4) (N := some 99) #[Y,Y,Y,Y,Y,U,U,U,Y,U,U] rfl rfl (one_of HT_.out (by kernel_rfl)) (by decide) (fun K hK => ?_)
         refine goes_ Try.func17 (by kernel_rfl) rfl #[.agg #[.int .i64 t283, .slice Ao190 t284.length co190], .agg #[.int .i64 t287, .int .i64 t288, .int .i64 t289, .slice Ao191 t290.length co191]] (by rfl) rfl rfl xR ?_
         with_reducible refine (impl_Inside.calls kj109 t283 _ _ t284 t287 t288 t289 _ _ t290 t293 t294 t295 t296 t299 _ ?side1 ?side2 ?side3 ?side4 A175.out).mono ?_
         (case side1 => repeat (first | exact (Kd.R_reads' HO286.out).2.2 | (with_reducible refine Kd.C_alloc ?_ _) | (with_reducible refine Kd.C_drewN ?_ _) | (with_reducible refine Kd.C_drew ?_)))
         (case side2 => exact (Kd.R_reads' HO286.out).2.1)
         (case side3 => repeat (first | exact (Kd.R_reads' HO292.out).2.2 | (with_reducible refine Kd.C_alloc ?_ _) | (with_reducible refine Kd.C_drewN ?_ _) | (with_reducible refine Kd.C_drew ?_)))
         (case side4 => exact (Kd.R_reads' HO292.out).2.1)
         rintro e w192 ⟨v297, rfl, ho0, hb⟩
         refine ⟨_, rfl, ?_⟩
         have n0_ := aM (Kd.R_elder' (kr HO_242003.out) (Kd.R_base ho0) hb)
         have n1_ := aM (kB (kr HO_247001.out) hb)
         have n2_ := aM (Kd.R_elder' (kr HO_254003.out) (Kd.R_base ho0) hb)
         have n3_ := aM (Kd.R_elder' (kr HO_262003.out) (Kd.R_base ho0) hb)
         have n4_ := aM (kB (kr HO286.out) hb)
         have n5_ := aM (Kd.R_elder' (kr HO292.out) (Kd.R_base ho0) hb)
         have n6_ := aM (Kd.R_lower (Kd.R_new' (Kd.R_new' (Kd.R_new' (Kd.R_new' ho0 (Kd.R_lt (kr HO_242003.out))) (Kd.R_lt (kr HO_254003.out))) (Kd.R_lt (kr HO_262003.out))) (Kd.R_lt (kr HO292.out))) (below_size (bl HB.out)))
         have n7_ := aM (bB (g := gb220) (o := .cells #[.int .i64 a0_0, .slice A0_1 l0_1.length c0_1] 44 (0, 0)) (bk BK220.out) hb)
         have n8_ := aM (bB (g := gb221) (o := .cells #[.int .i64 a1_0, .int .i64 a1_1, .int .i64 a1_2, .slice A1_3 l1_3.length c1_3] 45 (0, 0)) (bk BK221.out) hb)
         have n9_ := aM (bB (g := gb241) (o := .cells #[.int .i64 t234, .int .i64 t235, .int .i64 t236, .slice Ao44 t237.length co44] 28 (0, 0)) (bk BK241.out) hb)
         have n10_ := aM (bB (g := gb246) (o := .cells #[.int .i64 t242, .slice Ao54 t276.length co54] 26 (0, 0)) (bk BK246.out) hb)
         have n11_ := aM (bB (g := gb253) (o := .cells #[.int .i64 t247, .int .i64 t248, .int .i64 t249, .slice Ao64 t278.length co64] 28 (0, 0)) (bk BK253.out) hb)
         have n12_ := aM (bB (g := gb261) (o := .cells #[.int .i64 t254, .int .i64 t255, .int .i64 t256, .slice Ao74 t257.length co74] 28 (0, 0)) (bk BK261.out) hb)
         have n13_ := aM (bB (g := gb300) (o := .cells #[.int .i64 0, .int .i64 0, .int .i64 0, .slice none 0 0] 28 (0, 0)) (bk BK300.out) hb)
         have n14_ := aM (bS (bl HB.out) hb)
         clear HO_242003 HO_247001
         clear HO_254003 HO_262003
         clear HO286 HO292
         clear BK220 BK221
         clear BK241 BK246
         clear BK253 BK261
         clear BK300 HB
         have HO_242003 := n0_
         have HO_247001 := n1_
         have HO_254003 := n2_
         have HO_262003 := n3_
         have HO286 := n4_
         have HO292 := n5_
         have HO298 := n6_
         have BK220 := n7_
         have BK221 := n8_
         have BK241 := n9_
         have BK246 := n10_
         have BK253 := n11_
         have BK261 := n12_
         have BK300 := n13_
         have HB := n14_
         clear n0_ n1_ n2_ n3_ n4_ n5_ n6_ n7_ n8_ n9_ n10_ n11_ n12_ n13_ n14_
         (try clear hb)
         (try clear hb2)
         (try clear hk)
         (try clear hi)
         (try clear ho0)
         refine hK.out _ _ ⟨cI BK220.out 0, cI BK220.out 1, cI BK221.out 0, cI BK221.out 1, cI BK221.out 2, cI BK221.out 3⟩ (fun hHeld => ?_)
         clear hK K
         refine norm_ (a' := ?_) ?_ ?_
         rotate_left
         ·show Act.put _ (some 99) _ = _
          simp only [Act.put, sA, sZ, sS, i64_w, i32_w]
          rfl
         refine pure_ (i := 5) (N := some 94) (v := ?_) (a' := ?_) #[Y,Y,Y,Y,Y,Y,U,U,Y,U,U] rfl rfl (any_of HT_.out (by kernel_rfl)) (fun _ _ _ h => h) (Or.inl ⟨by rfl, ?_⟩) ?_ ?_
         rotate_left
         ·intro w'
          go_simp
          with_reducible rfl
         rotate_left
         ·simp only [Act.put, sA, sZ, sS, i64_w, i32_w]
          rfl
         refine pure_ (i := 6) (N := some 100) (v := ?_) (a' := ?_) #[Y,Y,Y,Y,Y,Y,Y,U,Y,U,U] rfl rfl (any_of HT_.out (by kernel_rfl)) (fun _ _ _ h => h) (Or.inl ⟨by rfl, ?_⟩) ?_ ?_
         rotate_left
         ·intro w'
          go_simp
          with_reducible rfl
         rotate_left
         ·simp only [Act.put, sA, sZ, sS, i64_w, i32_w]
          rfl
         refine pure_ (i := 7) (N := some 101) (v := ?_) (a' := ?_) #[Y,Y,Y,Y,Y,Y,Y,Y,Y,U,U] rfl rfl (any_of HT_.out (by kernel_rfl)) (fun _ _ _ h => h) (Or.inl ⟨by rfl, ?_⟩) ?_ ?_
         rotate_left
         ·intro w'
          go_simp
          with_reducible rfl
         rotate_left
         ·simp only [Act.put, sA, sZ, sS, i64_w, i32_w]
          rfl
         exact norm_ (by simp only [putAll, Act.put, sA, sZ, sS]) (hCont (.slice Ao190 t284.length co190, .slice Ao191 t290.length co191, v297, gb300) _ ⟨hHeld, (kr (Kd.R_mono HO286.out (fun _ hk => hk.2))), (kr (Kd.R_mono HO292.out (fun _ hk => ⟨hk.2, ⟨hk.1.1.1.2, ⟨hk.1.1.2, hk.1.2⟩⟩⟩))), (kr (Kd.R_mono HO298.out (fun _ hk => ⟨hk.2, ⟨hk.1.1.1.2, ⟨hk.1.1.2, hk.1.2⟩⟩⟩))), (kr (Kd.R_mono HO_242003.out (fun _ hk => ⟨hk.1.2, ⟨hk.2, ⟨hk.1.1.1, hk.1.1.2⟩⟩⟩))), (kr (Kd.R_mono HO_247001.out (fun _ hk => hk.2))), (kr (Kd.R_mono HO_254003.out (fun _ hk => ⟨hk.1.2, ⟨hk.2, ⟨hk.1.1.1, hk.1.1.2⟩⟩⟩))), (kr (Kd.R_mono HO_262003.out (fun _ hk => ⟨hk.1.2, ⟨hk.2, ⟨hk.1.1.1, hk.1.1.2⟩⟩⟩))), (bk BK220.out), (bk BK221.out), (bk BK241.out), (bk BK246.out), (bk BK253.out), (bk BK261.out), (bk BK300.out), GW300.out, GE300.out, NB220_300.out, NB300_220.out, NB221_300.out, NB300_221.out, NB241_300.out, NB300_241.out, NB246_300.out, NB300_246.out, NB253_300.out, NB300_253.out, NB261_300.out, NB300_261.out, (bl HB.out)⟩)
       ·skip
        refine box_step ?hg (N := 15) ?hd (cs := #[.int .i64 0, .int .i64 0, .int .i64 0, .slice none 0 0]) (t := 28) ?hr ?_; (case hd => rfl); (case hg => rfl); (case hr => first | (go_simp; done) | (go_simp; rfl))
        intro gb300 hg w188 hbox hb
        have n0_ := aM (kB (kr HO_242003.out) hb)
        have n1_ := aM (kB (kr HO_247001.out) hb)
        have n2_ := aM (kB (kr HO_254003.out) hb)
        have n3_ := aM (kB (kr HO_262003.out) hb)
        have n4_ := aM (kB (kr HO286.out) hb)
        have n5_ := aM (bB (g := gb220) (o := .cells #[.int .i64 a0_0, .slice A0_1 l0_1.length c0_1] 44 (0, 0)) (bk BK220.out) hb)
        have n6_ := aM (bB (g := gb221) (o := .cells #[.int .i64 a1_0, .int .i64 a1_1, .int .i64 a1_2, .slice A1_3 l1_3.length c1_3] 45 (0, 0)) (bk BK221.out) hb)
        have n7_ := aM (bB (g := gb241) (o := .cells #[.int .i64 t234, .int .i64 t235, .int .i64 t236, .slice Ao44 t237.length co44] 28 (0, 0)) (bk BK241.out) hb)
        have n8_ := aM (bB (g := gb246) (o := .cells #[.int .i64 t242, .slice Ao54 t276.length co54] 26 (0, 0)) (bk BK246.out) hb)
        have n9_ := aM (bB (g := gb253) (o := .cells #[.int .i64 t247, .int .i64 t248, .int .i64 t249, .slice Ao64 t278.length co64] 28 (0, 0)) (bk BK253.out) hb)
        have n10_ := aM (bB (g := gb261) (o := .cells #[.int .i64 t254, .int .i64 t255, .int .i64 t256, .slice Ao74 t257.length co74] 28 (0, 0)) (bk BK261.out) hb)
        have n11_ := aM (bS (bl HB.out) hb)
        have n12_ := aM (hbox)
        have n13_ := aM ((by rw [hg]; exact (below_size (bl HB.out)) : w.heap.size ≤ gb300))
        have n14_ := aM ((by rw [hg]; exact (below_size (bl HB.out)) : w.heap.size ≤ gb300))
        have n15_ := aM ((by rw [hg]; exact Nat.ne_of_lt (blk_lt (g := gb220) (o := .cells #[.int .i64 a0_0, .slice A0_1 l0_1.length c0_1] 44 (0, 0)) (bk BK220.out)) : gb220 ≠ gb300))
        have n16_ := aM ((by rw [hg]; exact Nat.ne_of_gt (blk_lt (g := gb220) (o := .cells #[.int .i64 a0_0, .slice A0_1 l0_1.length c0_1] 44 (0, 0)) (bk BK220.out)) : gb300 ≠ gb220))
        have n17_ := aM ((by rw [hg]; exact Nat.ne_of_lt (blk_lt (g := gb221) (o := .cells #[.int .i64 a1_0, .int .i64 a1_1, .int .i64 a1_2, .slice A1_3 l1_3.length c1_3] 45 (0, 0)) (bk BK221.out)) : gb221 ≠ gb300))
        have n18_ := aM ((by rw [hg]; exact Nat.ne_of_gt (blk_lt (g := gb221) (o := .cells #[.int .i64 a1_0, .int .i64 a1_1, .int .i64 a1_2, .slice A1_3 l1_3.length c1_3] 45 (0, 0)) (bk BK221.out)) : gb300 ≠ gb221))
        have n19_ := aM ((by rw [hg]; exact Nat.ne_of_lt (blk_lt (g := gb241) (o := .cells #[.int .i64 t234, .int .i64 t235, .int .i64 t236, .slice Ao44 t237.length co44] 28 (0, 0)) (bk BK241.out)) : gb241 ≠ gb300))
        have n20_ := aM ((by rw [hg]; exact Nat.ne_of_gt (blk_lt (g := gb241) (o := .cells #[.int .i64 t234, .int .i64 t235, .int .i64 t236, .slice Ao44 t237.length co44] 28 (0, 0)) (bk BK241.out)) : gb300 ≠ gb241))
        have n21_ := aM ((by rw [hg]; exact Nat.ne_of_lt (blk_lt (g := gb246) (o := .cells #[.int .i64 t242, .slice Ao54 t276.length co54] 26 (0, 0)) (bk BK246.out)) : gb246 ≠ gb300))
        have n22_ := aM ((by rw [hg]; exact Nat.ne_of_gt (blk_lt (g := gb246) (o := .cells #[.int .i64 t242, .slice Ao54 t276.length co54] 26 (0, 0)) (bk BK246.out)) : gb300 ≠ gb246))
        have n23_ := aM ((by rw [hg]; exact Nat.ne_of_lt (blk_lt (g := gb253) (o := .cells #[.int .i64 t247, .int .i64 t248, .int .i64 t249, .slice Ao64 t278.length co64] 28 (0, 0)) (bk BK253.out)) : gb253 ≠ gb300))
        have n24_ := aM ((by rw [hg]; exact Nat.ne_of_gt (blk_lt (g := gb253) (o := .cells #[.int .i64 t247, .int .i64 t248, .int .i64 t249, .slice Ao64 t278.length co64] 28 (0, 0)) (bk BK253.out)) : gb300 ≠ gb253))
        have n25_ := aM ((by rw [hg]; exact Nat.ne_of_lt (blk_lt (g := gb261) (o := .cells #[.int .i64 t254, .int .i64 t255, .int .i64 t256, .slice Ao74 t257.length co74] 28 (0, 0)) (bk BK261.out)) : gb261 ≠ gb300))
        have n26_ := aM ((by rw [hg]; exact Nat.ne_of_gt (blk_lt (g := gb261) (o := .cells #[.int .i64 t254, .int .i64 t255, .int .i64 t256, .slice Ao74 t257.length co74] 28 (0, 0)) (bk BK261.out)) : gb300 ≠ gb261))
        clear HO_242003 HO_247001
        clear HO_254003 HO_262003
        clear HO286 BK220
        clear BK221 BK241
        clear BK246 BK253
        clear BK261 HB
        have HO_242003 := n0_
        have HO_247001 := n1_
        have HO_254003 := n2_
        have HO_262003 := n3_
        have HO286 := n4_
        have BK220 := n5_
        have BK221 := n6_
        have BK241 := n7_
        have BK246 := n8_
        have BK253 := n9_
        have BK261 := n10_
        have HB := n11_
        have BK300 := n12_
        have GW300 := n13_
        have GE300 := n14_
        have NB220_300 := n15_
        have NB300_220 := n16_
        have NB221_300 := n17_
        have NB300_221 := n18_
        have NB241_300 := n19_
        have NB300_241 := n20_
        have NB246_300 := n21_
        have NB300_246 := n22_
        have NB253_300 := n23_
        have NB300_253 := n24_
        have NB261_300 := n25_
        have NB300_261 := n26_
        clear n0_ n1_ n2_ n3_ n4_ n5_ n6_ n7_ n8_ n9_ n10_ n11_ n12_ n13_ n14_ n15_ n16_ n17_ n18_ n19_ n20_ n21_ n22_ n23_ n24_ n25_ n26_
        clear hb hbox hg
        refine hK.out _ _ ⟨cI BK220.out 0, cI BK220.out 1, cI BK221.out 0, cI BK221.out 1, cI BK221.out 2, cI BK221.out 3⟩ (fun hHeld => ?_)
        clear hK K
        refine norm_ (a' := ?_) ?_ ?_
        rotate_left
        ·show Act.put _ (some 15) _ = _
         simp only [Act.put, sA, sZ, sS, i64_w, i32_w]
         rfl
        refine one_ (i := 3) (N := some 98) #[Y,Y,Y,Y,U,U,U,U,Y,U,U] rfl rfl (one_of HT_.out (by kernel_rfl)) (by decide) (fun K hK => ?_)
        refine goes_ Try.func33 (by kernel_rfl) rfl #[.agg #[.int .i64 a1_0, .int .i64 a1_1, .int .i64 a1_2, .slice A1_3 l1_3.length c1_3]] (by rfl) rfl rfl xR ?_
        with_reducible refine (laws_toFrame.calls kj109 a1_0 a1_1 a1_2 _ _ l1_3 t287 t288 t289 t290 _ ?side1 ?side2 A174.out).mono ?_
        (case side1 => repeat (first | exact (cB HR1_3.out HB.out) | (with_reducible refine Kd.C_alloc ?_ _) | (with_reducible refine Kd.C_drewN ?_ _) | (with_reducible refine Kd.C_drew ?_)))
        (case side2 => exact HC1_3.out)
        rintro e w189 ⟨v291, rfl, ho0, hb⟩
        refine ⟨_, rfl, ?_⟩
        have n0_ := aM (Kd.R_elder' (kr HO_242003.out) (Kd.R_base ho0) hb)
        have n1_ := aM (kB (kr HO_247001.out) hb)
        have n2_ := aM (Kd.R_elder' (kr HO_254003.out) (Kd.R_base ho0) hb)
        have n3_ := aM (Kd.R_elder' (kr HO_262003.out) (Kd.R_base ho0) hb)
        have n4_ := aM (kB (kr HO286.out) hb)
        have n5_ := aM (Kd.R_lower (Kd.R_new' (Kd.R_new' (Kd.R_new' ho0 (Kd.R_lt (kr HO_242003.out))) (Kd.R_lt (kr HO_254003.out))) (Kd.R_lt (kr HO_262003.out))) (below_size (bl HB.out)))
        have n6_ := aM (bB (g := gb220) (o := .cells #[.int .i64 a0_0, .slice A0_1 l0_1.length c0_1] 44 (0, 0)) (bk BK220.out) hb)
        have n7_ := aM (bB (g := gb221) (o := .cells #[.int .i64 a1_0, .int .i64 a1_1, .int .i64 a1_2, .slice A1_3 l1_3.length c1_3] 45 (0, 0)) (bk BK221.out) hb)
        have n8_ := aM (bB (g := gb241) (o := .cells #[.int .i64 t234, .int .i64 t235, .int .i64 t236, .slice Ao44 t237.length co44] 28 (0, 0)) (bk BK241.out) hb)
        have n9_ := aM (bB (g := gb246) (o := .cells #[.int .i64 t242, .slice Ao54 t276.length co54] 26 (0, 0)) (bk BK246.out) hb)
        have n10_ := aM (bB (g := gb253) (o := .cells #[.int .i64 t247, .int .i64 t248, .int .i64 t249, .slice Ao64 t278.length co64] 28 (0, 0)) (bk BK253.out) hb)
        have n11_ := aM (bB (g := gb261) (o := .cells #[.int .i64 t254, .int .i64 t255, .int .i64 t256, .slice Ao74 t257.length co74] 28 (0, 0)) (bk BK261.out) hb)
        have n12_ := aM (bB (g := gb300) (o := .cells #[.int .i64 0, .int .i64 0, .int .i64 0, .slice none 0 0] 28 (0, 0)) (bk BK300.out) hb)
        have n13_ := aM (bS (bl HB.out) hb)
        clear HO_242003 HO_247001
        clear HO_254003 HO_262003
        clear HO286 BK220
        clear BK221 BK241
        clear BK246 BK253
        clear BK261 BK300 HB
        have HO_242003 := n0_
        have HO_247001 := n1_
        have HO_254003 := n2_
        have HO_262003 := n3_
        have HO286 := n4_
        have HO292 := n5_
        have BK220 := n6_
        have BK221 := n7_
        have BK241 := n8_
        have BK246 := n9_
        have BK253 := n10_
        have BK261 := n11_
        have BK300 := n12_
        have HB := n13_
        clear n0_ n1_ n2_ n3_ n4_ n5_ n6_ n7_ n8_ n9_ n10_ n11_ n12_ n13_
        (try clear hb)
        (try clear hb2)
        (try clear hk)
        (try clear hi)
        (try clear ho0)
        obtain ⟨Ao190, co190, eo190⟩ := Kd.R_slice HO286.out
        (first | subst eo190 | (injection eo190 with f1_ f2_ f3_; have f4_ := f1_.symm; have f5_ := f3_.symm; clear f1_ f2_ f3_; subst f4_; subst f5_))
        obtain ⟨Ao191, co191, eo191⟩ := Kd.R_slice HO292.out
        (first | subst eo191 | (injection eo191 with f1_ f2_ f3_; have f4_ := f1_.symm; have f5_ := f3_.symm; clear f1_ f2_ f3_; subst f4_; subst f5_))
        refine hK.out _ _ ⟨cI BK220.out 0, cI BK220.out 1, cI BK221.out 0, cI BK221.out 1, cI BK221.out 2, cI BK221.out 3⟩ (fun hHeld => ?_)
        clear hK K
        refine norm_ (a' := ?_) ?_ ?_
        rotate_left
        ·show Act.put _ (some 98) _ = _
         simp only [Act.put, sA, sZ, sS, i64_w, i32_w]
         rfl
        refine one_ (i := 4) (N := some 99) #[Y,Y,Y,Y,Y,U,U,U,Y,U,U] rfl rfl (one_of HT_.out (by kernel_rfl)) (by decide) (fun K hK => ?_)
        refine goes_ Try.func17 (by kernel_rfl) rfl #[.agg #[.int .i64 t283, .slice Ao190 t284.length co190], .agg #[.int .i64 t287, .int .i64 t288, .int .i64 t289, .slice Ao191 t290.length co191]] (by rfl) rfl rfl xR ?_
        with_reducible refine (impl_Inside.calls kj109 t283 _ _ t284 t287 t288 t289 _ _ t290 t293 t294 t295 t296 t299 _ ?side1 ?side2 ?side3 ?side4 A175.out).mono ?_
        (case side1 => repeat (first | exact (Kd.R_reads' HO286.out).2.2 | (with_reducible refine Kd.C_alloc ?_ _) | (with_reducible refine Kd.C_drewN ?_ _) | (with_reducible refine Kd.C_drew ?_)))
        (case side2 => exact (Kd.R_reads' HO286.out).2.1)
        (case side3 => repeat (first | exact (Kd.R_reads' HO292.out).2.2 | (with_reducible refine Kd.C_alloc ?_ _) | (with_reducible refine Kd.C_drewN ?_ _) | (with_reducible refine Kd.C_drew ?_)))
        (case side4 => exact (Kd.R_reads' HO292.out).2.1)
        rintro e w192 ⟨v297, rfl, ho0, hb⟩
        refine ⟨_, rfl, ?_⟩
        have n0_ := aM (Kd.R_elder' (kr HO_242003.out) (Kd.R_base ho0) hb)
        have n1_ := aM (kB (kr HO_247001.out) hb)
        have n2_ := aM (Kd.R_elder' (kr HO_254003.out) (Kd.R_base ho0) hb)
        have n3_ := aM (Kd.R_elder' (kr HO_262003.out) (Kd.R_base ho0) hb)
        have n4_ := aM (kB (kr HO286.out) hb)
        have n5_ := aM (Kd.R_elder' (kr HO292.out) (Kd.R_base ho0) hb)
        have n6_ := aM (Kd.R_lower (Kd.R_new' (Kd.R_new' (Kd.R_new' (Kd.R_new' ho0 (Kd.R_lt (kr HO_242003.out))) (Kd.R_lt (kr HO_254003.out))) (Kd.R_lt (kr HO_262003.out))) (Kd.R_lt (kr HO292.out))) (below_size (bl HB.out)))
        have n7_ := aM (bB (g := gb220) (o := .cells #[.int .i64 a0_0, .slice A0_1 l0_1.length c0_1] 44 (0, 0)) (bk BK220.out) hb)
        have n8_ := aM (bB (g := gb221) (o := .cells #[.int .i64 a1_0, .int .i64 a1_1, .int .i64 a1_2, .slice A1_3 l1_3.length c1_3] 45 (0, 0)) (bk BK221.out) hb)
        have n9_ := aM (bB (g := gb241) (o := .cells #[.int .i64 t234, .int .i64 t235, .int .i64 t236, .slice Ao44 t237.length co44] 28 (0, 0)) (bk BK241.out) hb)
        have n10_ := aM (bB (g := gb246) (o := .cells #[.int .i64 t242, .slice Ao54 t276.length co54] 26 (0, 0)) (bk BK246.out) hb)
        have n11_ := aM (bB (g := gb253) (o := .cells #[.int .i64 t247, .int .i64 t248, .int .i64 t249, .slice Ao64 t278.length co64] 28 (0, 0)) (bk BK253.out) hb)
        have n12_ := aM (bB (g := gb261) (o := .cells #[.int .i64 t254, .int .i64 t255, .int .i64 t256, .slice Ao74 t257.length co74] 28 (0, 0)) (bk BK261.out) hb)
        have n13_ := aM (bB (g := gb300) (o := .cells #[.int .i64 0, .int .i64 0, .int .i64 0, .slice none 0 0] 28 (0, 0)) (bk BK300.out) hb)
        have n14_ := aM (bS (bl HB.out) hb)
        clear HO_242003 HO_247001
        clear HO_254003 HO_262003
        clear HO286 HO292
        clear BK220 BK221
        clear BK241 BK246
        clear BK253 BK261
        clear BK300 HB
        have HO_242003 := n0_
        have HO_247001 := n1_
        have HO_254003 := n2_
        have HO_262003 := n3_
        have HO286 := n4_
        have HO292 := n5_
        have HO298 := n6_
        have BK220 := n7_
        have BK221 := n8_
        have BK241 := n9_
        have BK246 := n10_
        have BK253 := n11_
        have BK261 := n12_
        have BK300 := n13_
        have HB := n14_
        clear n0_ n1_ n2_ n3_ n4_ n5_ n6_ n7_ n8_ n9_ n10_ n11_ n12_ n13_ n14_
        (try clear hb)
        (try clear hb2)
        (try clear hk)
        (try clear hi)
        (try clear ho0)
        refine hK.out _ _ ⟨cI BK220.out 0, cI BK220.out 1, cI BK221.out 0, cI BK221.out 1, cI BK221.out 2, cI BK221.out 3⟩ (fun hHeld => ?_)
        clear hK K
        refine norm_ (a' := ?_) ?_ ?_
        rotate_left
        ·show Act.put _ (some 99) _ = _
         simp only [Act.put, sA, sZ, sS, i64_w, i32_w]
         rfl
        refine pure_ (i := 5) (N := some 94) (v := ?_) (a' := ?_) #[Y,Y,Y,Y,Y,Y,U,U,Y,U,U] rfl rfl (any_of HT_.out (by kernel_rfl)) (fun _ _ _ h => h) (Or.inl ⟨by rfl, ?_⟩) ?_ ?_
        rotate_left
        ·intro w'
         go_simp
         with_reducible rfl
        rotate_left
        ·simp only [Act.put, sA, sZ, sS, i64_w, i32_w]
         rfl
        refine pure_ (i := 6) (N := some 100) (v := ?_) (a' := ?_) #[Y,Y,Y,Y,Y,Y,Y,U,Y,U,U] rfl rfl (any_of HT_.out (by kernel_rfl)) (fun _ _ _ h => h) (Or.inl ⟨by rfl, ?_⟩) ?_ ?_
        rotate_left
        ·intro w'
         go_simp
         with_reducible rfl
        rotate_left
        ·simp only [Act.put, sA, sZ, sS, i64_w, i32_w]
         rfl
        refine pure_ (i := 7) (N := some 101) (v := ?_) (a' := ?_) #[Y,Y,Y,Y,Y,Y,Y,Y,Y,U,U] rfl rfl (any_of HT_.out (by kernel_rfl)) (fun _ _ _ h => h) (Or.inl ⟨by rfl, ?_⟩) ?_ ?_
        rotate_left
        ·intro w'
         go_simp
         with_reducible rfl
        rotate_left
        ·simp only [Act.put, sA, sZ, sS, i64_w, i32_w]
         rfl
        exact norm_ (by simp only [putAll, Act.put, sA, sZ, sS]) (hCont (.slice Ao190 t284.length co190, .slice Ao191 t290.length co191, v297, gb300) _ ⟨hHeld, (kr (Kd.R_mono HO286.out (fun _ hk => hk.2))), (kr (Kd.R_mono HO292.out (fun _ hk => ⟨hk.2, ⟨hk.1.1.1.2, ⟨hk.1.1.2, hk.1.2⟩⟩⟩))), (kr (Kd.R_mono HO298.out (fun _ hk => ⟨hk.2, ⟨hk.1.1.1.2, ⟨hk.1.1.2, hk.1.2⟩⟩⟩))), (kr (Kd.R_mono HO_242003.out (fun _ hk => ⟨hk.1.2, ⟨hk.2, ⟨hk.1.1.1, hk.1.1.2⟩⟩⟩))), (kr (Kd.R_mono HO_247001.out (fun _ hk => hk.2))), (kr (Kd.R_mono HO_254003.out (fun _ hk => ⟨hk.1.2, ⟨hk.2, ⟨hk.1.1.1, hk.1.1.2⟩⟩⟩))), (kr (Kd.R_mono HO_262003.out (fun _ hk => ⟨hk.1.2, ⟨hk.2, ⟨hk.1.1.1, hk.1.1.2⟩⟩⟩))), (bk BK220.out), (bk BK221.out), (bk BK241.out), (bk BK246.out), (bk BK253.out), (bk BK261.out), (bk BK300.out), GW300.out, GE300.out, NB220_300.out, NB300_220.out, NB221_300.out, NB300_221.out, NB241_300.out, NB300_241.out, NB246_300.out, NB300_246.out, NB253_300.out, NB300_253.out, NB261_300.out, NB300_261.out, (bl HB.out)⟩)
      ·skip
       refine box_step ?hg (N := 15) ?hd (cs := #[.int .i64 0, .int .i64 0, .int .i64 0, .slice none 0 0]) (t := 28) ?hr ?_; (case hd => rfl); (case hg => rfl); (case hr => first | (go_simp; done) | (go_simp; rfl))
       intro gb300 hg w187 hbox hb
       have n0_ := aM (kB (kr HO_242003.out) hb)
       have n1_ := aM (kB (kr HO_247001.out) hb)
       have n2_ := aM (kB (kr HO_254003.out) hb)
       have n3_ := aM (kB (kr HO_262003.out) hb)
       have n4_ := aM (bB (g := gb220) (o := .cells #[.int .i64 a0_0, .slice A0_1 l0_1.length c0_1] 44 (0, 0)) (bk BK220.out) hb)
       have n5_ := aM (bB (g := gb221) (o := .cells #[.int .i64 a1_0, .int .i64 a1_1, .int .i64 a1_2, .slice A1_3 l1_3.length c1_3] 45 (0, 0)) (bk BK221.out) hb)
       have n6_ := aM (bB (g := gb241) (o := .cells #[.int .i64 t234, .int .i64 t235, .int .i64 t236, .slice Ao44 t237.length co44] 28 (0, 0)) (bk BK241.out) hb)
       have n7_ := aM (bB (g := gb246) (o := .cells #[.int .i64 t242, .slice Ao54 t276.length co54] 26 (0, 0)) (bk BK246.out) hb)
       have n8_ := aM (bB (g := gb253) (o := .cells #[.int .i64 t247, .int .i64 t248, .int .i64 t249, .slice Ao64 t278.length co64] 28 (0, 0)) (bk BK253.out) hb)
       have n9_ := aM (bB (g := gb261) (o := .cells #[.int .i64 t254, .int .i64 t255, .int .i64 t256, .slice Ao74 t257.length co74] 28 (0, 0)) (bk BK261.out) hb)
       have n10_ := aM (bS (bl HB.out) hb)
       have n11_ := aM (hbox)
       have n12_ := aM ((by rw [hg]; exact (below_size (bl HB.out)) : w.heap.size ≤ gb300))
       have n13_ := aM ((by rw [hg]; exact (below_size (bl HB.out)) : w.heap.size ≤ gb300))
       have n14_ := aM ((by rw [hg]; exact Nat.ne_of_lt (blk_lt (g := gb220) (o := .cells #[.int .i64 a0_0, .slice A0_1 l0_1.length c0_1] 44 (0, 0)) (bk BK220.out)) : gb220 ≠ gb300))
       have n15_ := aM ((by rw [hg]; exact Nat.ne_of_gt (blk_lt (g := gb220) (o := .cells #[.int .i64 a0_0, .slice A0_1 l0_1.length c0_1] 44 (0, 0)) (bk BK220.out)) : gb300 ≠ gb220))
       have n16_ := aM ((by rw [hg]; exact Nat.ne_of_lt (blk_lt (g := gb221) (o := .cells #[.int .i64 a1_0, .int .i64 a1_1, .int .i64 a1_2, .slice A1_3 l1_3.length c1_3] 45 (0, 0)) (bk BK221.out)) : gb221 ≠ gb300))
       have n17_ := aM ((by rw [hg]; exact Nat.ne_of_gt (blk_lt (g := gb221) (o := .cells #[.int .i64 a1_0, .int .i64 a1_1, .int .i64 a1_2, .slice A1_3 l1_3.length c1_3] 45 (0, 0)) (bk BK221.out)) : gb300 ≠ gb221))
       have n18_ := aM ((by rw [hg]; exact Nat.ne_of_lt (blk_lt (g := gb241) (o := .cells #[.int .i64 t234, .int .i64 t235, .int .i64 t236, .slice Ao44 t237.length co44] 28 (0, 0)) (bk BK241.out)) : gb241 ≠ gb300))
       have n19_ := aM ((by rw [hg]; exact Nat.ne_of_gt (blk_lt (g := gb241) (o := .cells #[.int .i64 t234, .int .i64 t235, .int .i64 t236, .slice Ao44 t237.length co44] 28 (0, 0)) (bk BK241.out)) : gb300 ≠ gb241))
       have n20_ := aM ((by rw [hg]; exact Nat.ne_of_lt (blk_lt (g := gb246) (o := .cells #[.int .i64 t242, .slice Ao54 t276.length co54] 26 (0, 0)) (bk BK246.out)) : gb246 ≠ gb300))
       have n21_ := aM ((by rw [hg]; exact Nat.ne_of_gt (blk_lt (g := gb246) (o := .cells #[.int .i64 t242, .slice Ao54 t276.length co54] 26 (0, 0)) (bk BK246.out)) : gb300 ≠ gb246))
       have n22_ := aM ((by rw [hg]; exact Nat.ne_of_lt (blk_lt (g := gb253) (o := .cells #[.int .i64 t247, .int .i64 t248, .int .i64 t249, .slice Ao64 t278.length co64] 28 (0, 0)) (bk BK253.out)) : gb253 ≠ gb300))
       have n23_ := aM ((by rw [hg]; exact Nat.ne_of_gt (blk_lt (g := gb253) (o := .cells #[.int .i64 t247, .int .i64 t248, .int .i64 t249, .slice Ao64 t278.length co64] 28 (0, 0)) (bk BK253.out)) : gb300 ≠ gb253))
       have n24_ := aM ((by rw [hg]; exact Nat.ne_of_lt (blk_lt (g := gb261) (o := .cells #[.int .i64 t254, .int .i64 t255, .int .i64 t256, .slice Ao74 t257.length co74] 28 (0, 0)) (bk BK261.out)) : gb261 ≠ gb300))
       have n25_ := aM ((by rw [hg]; exact Nat.ne_of_gt (blk_lt (g := gb261) (o := .cells #[.int .i64 t254, .int .i64 t255, .int .i64 t256, .slice Ao74 t257.length co74] 28 (0, 0)) (bk BK261.out)) : gb300 ≠ gb261))
       clear HO_242003 HO_247001
       clear HO_254003 HO_262003
       clear BK220 BK221
       clear BK241 BK246
       clear BK253 BK261 HB
       have HO_242003 := n0_
       have HO_247001 := n1_
       have HO_254003 := n2_
       have HO_262003 := n3_
       have BK220 := n4_
       have BK221 := n5_
       have BK241 := n6_
       have BK246 := n7_
       have BK253 := n8_
       have BK261 := n9_
       have HB := n10_
       have BK300 := n11_
       have GW300 := n12_
       have GE300 := n13_
       have NB220_300 := n14_
       have NB300_220 := n15_
       have NB221_300 := n16_
       have NB300_221 := n17_
       have NB241_300 := n18_
       have NB300_241 := n19_
       have NB246_300 := n20_
       have NB300_246 := n21_
       have NB253_300 := n22_
       have NB300_253 := n23_
       have NB261_300 := n24_
       have NB300_261 := n25_
       clear n0_ n1_ n2_ n3_ n4_ n5_ n6_ n7_ n8_ n9_ n10_ n11_ n12_ n13_ n14_ n15_ n16_ n17_ n18_ n19_ n20_ n21_ n22_ n23_ n24_ n25_
       clear hb hbox hg
       refine hK.out _ _ ⟨cI BK220.out 0, cI BK220.out 1, cI BK221.out 0, cI BK221.out 1, cI BK221.out 2, cI BK221.out 3⟩ (fun hHeld => ?_)
       clear hK K
       refine norm_ (a' := ?_) ?_ ?_
       rotate_left
       ·show Act.put _ (some 15) _ = _
        simp only [Act.put, sA, sZ, sS, i64_w, i32_w]
        rfl
       refine one_ (i := 1) (N := some 96) #[Y,Y,Y,U,U,U,U,U,Y,U,U] rfl rfl (one_of HT_.out (by kernel_rfl)) (by decide) (fun K hK => ?_)
       refine goes_ Try.func32 (by kernel_rfl) rfl #[.agg #[.int .i64 a0_0, .slice A0_1 l0_1.length c0_1]] (by rfl) rfl rfl xR ?_
       with_reducible refine (laws_toMember.calls kj109 a0_0 _ _ l0_1 t283 t284 _ ?side1 ?side2 A173.out).mono ?_
       (case side1 => repeat (first | exact (cB HR0_1.out HB.out) | (with_reducible refine Kd.C_alloc ?_ _) | (with_reducible refine Kd.C_drewN ?_ _) | (with_reducible refine Kd.C_drew ?_)))
       (case side2 => exact HC0_1.out)
       rintro e w188 ⟨v285, rfl, ho0, hb⟩
       refine ⟨_, rfl, ?_⟩
       have n0_ := aM (kB (kr HO_242003.out) hb)
       have n1_ := aM (Kd.R_elder' (kr HO_247001.out) (Kd.R_base ho0) hb)
       have n2_ := aM (kB (kr HO_254003.out) hb)
       have n3_ := aM (kB (kr HO_262003.out) hb)
       have n4_ := aM (Kd.R_lower (Kd.R_new' ho0 (Kd.R_lt (kr HO_247001.out))) (below_size (bl HB.out)))
       have n5_ := aM (bB (g := gb220) (o := .cells #[.int .i64 a0_0, .slice A0_1 l0_1.length c0_1] 44 (0, 0)) (bk BK220.out) hb)
       have n6_ := aM (bB (g := gb221) (o := .cells #[.int .i64 a1_0, .int .i64 a1_1, .int .i64 a1_2, .slice A1_3 l1_3.length c1_3] 45 (0, 0)) (bk BK221.out) hb)
       have n7_ := aM (bB (g := gb241) (o := .cells #[.int .i64 t234, .int .i64 t235, .int .i64 t236, .slice Ao44 t237.length co44] 28 (0, 0)) (bk BK241.out) hb)
       have n8_ := aM (bB (g := gb246) (o := .cells #[.int .i64 t242, .slice Ao54 t276.length co54] 26 (0, 0)) (bk BK246.out) hb)
       have n9_ := aM (bB (g := gb253) (o := .cells #[.int .i64 t247, .int .i64 t248, .int .i64 t249, .slice Ao64 t278.length co64] 28 (0, 0)) (bk BK253.out) hb)
       have n10_ := aM (bB (g := gb261) (o := .cells #[.int .i64 t254, .int .i64 t255, .int .i64 t256, .slice Ao74 t257.length co74] 28 (0, 0)) (bk BK261.out) hb)
       have n11_ := aM (bB (g := gb300) (o := .cells #[.int .i64 0, .int .i64 0, .int .i64 0, .slice none 0 0] 28 (0, 0)) (bk BK300.out) hb)
       have n12_ := aM (bS (bl HB.out) hb)
       clear HO_242003 HO_247001
       clear HO_254003 HO_262003
       clear BK220 BK221
       clear BK241 BK246
       clear BK253 BK261
       clear BK300 HB
       have HO_242003 := n0_
       have HO_247001 := n1_
       have HO_254003 := n2_
       have HO_262003 := n3_
       have HO286 := n4_
       have BK220 := n5_
       have BK221 := n6_
       have BK241 := n7_
       have BK246 := n8_
       have BK253 := n9_
       have BK261 := n10_
       have BK300 := n11_
       have HB := n12_
       clear n0_ n1_ n2_ n3_ n4_ n5_ n6_ n7_ n8_ n9_ n10_ n11_ n12_
       (try clear hb)
       (try clear hb2)
       (try clear hk)
       (try clear hi)
       (try clear ho0)
       refine hK.out _ _ ⟨cI BK220.out 0, cI BK220.out 1, cI BK221.out 0, cI BK221.out 1, cI BK221.out 2, cI BK221.out 3⟩ (fun hHeld => ?_)
       clear hK K
       refine norm_ (a' := ?_) ?_ ?_
       rotate_left
       ·show Act.put _ (some 96) _ = _
        simp only [Act.put, sA, sZ, sS, i64_w, i32_w]
        rfl
       refine one_ (i := 3) (N := some 98) #[Y,Y,Y,Y,U,U,U,U,Y,U,U] rfl rfl (one_of HT_.out (by kernel_rfl)) (by decide) (fun K hK => ?_)
       refine goes_ Try.func33 (by kernel_rfl) rfl #[.agg #[.int .i64 a1_0, .int .i64 a1_1, .int .i64 a1_2, .slice A1_3 l1_3.length c1_3]] (by rfl) rfl rfl xR ?_
       with_reducible refine (laws_toFrame.calls kj109 a1_0 a1_1 a1_2 _ _ l1_3 t287 t288 t289 t290 _ ?side1 ?side2 A174.out).mono ?_
       (case side1 => repeat (first | exact (cB HR1_3.out HB.out) | (with_reducible refine Kd.C_alloc ?_ _) | (with_reducible refine Kd.C_drewN ?_ _) | (with_reducible refine Kd.C_drew ?_)))
       (case side2 => exact HC1_3.out)
       rintro e w189 ⟨v291, rfl, ho0, hb⟩
       refine ⟨_, rfl, ?_⟩
       have n0_ := aM (Kd.R_elder' (kr HO_242003.out) (Kd.R_base ho0) hb)
       have n1_ := aM (kB (kr HO_247001.out) hb)
       have n2_ := aM (Kd.R_elder' (kr HO_254003.out) (Kd.R_base ho0) hb)
       have n3_ := aM (Kd.R_elder' (kr HO_262003.out) (Kd.R_base ho0) hb)
       have n4_ := aM (kB (kr HO286.out) hb)
       have n5_ := aM (Kd.R_lower (Kd.R_new' (Kd.R_new' (Kd.R_new' ho0 (Kd.R_lt (kr HO_242003.out))) (Kd.R_lt (kr HO_254003.out))) (Kd.R_lt (kr HO_262003.out))) (below_size (bl HB.out)))
       have n6_ := aM (bB (g := gb220) (o := .cells #[.int .i64 a0_0, .slice A0_1 l0_1.length c0_1] 44 (0, 0)) (bk BK220.out) hb)
       have n7_ := aM (bB (g := gb221) (o := .cells #[.int .i64 a1_0, .int .i64 a1_1, .int .i64 a1_2, .slice A1_3 l1_3.length c1_3] 45 (0, 0)) (bk BK221.out) hb)
       have n8_ := aM (bB (g := gb241) (o := .cells #[.int .i64 t234, .int .i64 t235, .int .i64 t236, .slice Ao44 t237.length co44] 28 (0, 0)) (bk BK241.out) hb)
       have n9_ := aM (bB (g := gb246) (o := .cells #[.int .i64 t242, .slice Ao54 t276.length co54] 26 (0, 0)) (bk BK246.out) hb)
       have n10_ := aM (bB (g := gb253) (o := .cells #[.int .i64 t247, .int .i64 t248, .int .i64 t249, .slice Ao64 t278.length co64] 28 (0, 0)) (bk BK253.out) hb)
       have n11_ := aM (bB (g := gb261) (o := .cells #[.int .i64 t254, .int .i64 t255, .int .i64 t256, .slice Ao74 t257.length co74] 28 (0, 0)) (bk BK261.out) hb)
       have n12_ := aM (bB (g := gb300) (o := .cells #[.int .i64 0, .int .i64 0, .int .i64 0, .slice none 0 0] 28 (0, 0)) (bk BK300.out) hb)
       have n13_ := aM (bS (bl HB.out) hb)
       clear HO_242003 HO_247001
       clear HO_254003 HO_262003
       clear HO286 BK220
       clear BK221 BK241
       clear BK246 BK253
       clear BK261 BK300 HB
       have HO_242003 := n0_
       have HO_247001 := n1_
       have HO_254003 := n2_
       have HO_262003 := n3_
       have HO286 := n4_
       have HO292 := n5_
       have BK220 := n6_
       have BK221 := n7_
       have BK241 := n8_
       have BK246 := n9_
       have BK253 := n10_
       have BK261 := n11_
       have BK300 := n12_
       have HB := n13_
       clear n0_ n1_ n2_ n3_ n4_ n5_ n6_ n7_ n8_ n9_ n10_ n11_ n12_ n13_
       (try clear hb)
       (try clear hb2)
       (try clear hk)
       (try clear hi)
       (try clear ho0)
       obtain ⟨Ao190, co190, eo190⟩ := Kd.R_slice HO286.out
       (first | subst eo190 | (injection eo190 with f1_ f2_ f3_; have f4_ := f1_.symm; have f5_ := f3_.symm; clear f1_ f2_ f3_; subst f4_; subst f5_))
       obtain ⟨Ao191, co191, eo191⟩ := Kd.R_slice HO292.out
       (first | subst eo191 | (injection eo191 with f1_ f2_ f3_; have f4_ := f1_.symm; have f5_ := f3_.symm; clear f1_ f2_ f3_; subst f4_; subst f5_))
       refine hK.out _ _ ⟨cI BK220.out 0, cI BK220.out 1, cI BK221.out 0, cI BK221.out 1, cI BK221.out 2, cI BK221.out 3⟩ (fun hHeld => ?_)
       clear hK K
       refine norm_ (a' := ?_) ?_ ?_
       rotate_left
       ·show Act.put _ (some 98) _ = _
        simp only [Act.put, sA, sZ, sS, i64_w, i32_w]
        rfl
       refine one_ (i := 4) (N := some 99) #[Y,Y,Y,Y,Y,U,U,U,Y,U,U] rfl rfl (one_of HT_.out (by kernel_rfl)) (by decide) (fun K hK => ?_)
       refine goes_ Try.func17 (by kernel_rfl) rfl #[.agg #[.int .i64 t283, .slice Ao190 t284.length co190], .agg #[.int .i64 t287, .int .i64 t288, .int .i64 t289, .slice Ao191 t290.length co191]] (by rfl) rfl rfl xR ?_
       with_reducible refine (impl_Inside.calls kj109 t283 _ _ t284 t287 t288 t289 _ _ t290 t293 t294 t295 t296 t299 _ ?side1 ?side2 ?side3 ?side4 A175.out).mono ?_
       (case side1 => repeat (first | exact (Kd.R_reads' HO286.out).2.2 | (with_reducible refine Kd.C_alloc ?_ _) | (with_reducible refine Kd.C_drewN ?_ _) | (with_reducible refine Kd.C_drew ?_)))
       (case side2 => exact (Kd.R_reads' HO286.out).2.1)
       (case side3 => repeat (first | exact (Kd.R_reads' HO292.out).2.2 | (with_reducible refine Kd.C_alloc ?_ _) | (with_reducible refine Kd.C_drewN ?_ _) | (with_reducible refine Kd.C_drew ?_)))
       (case side4 => exact (Kd.R_reads' HO292.out).2.1)
       rintro e w192 ⟨v297, rfl, ho0, hb⟩
       refine ⟨_, rfl, ?_⟩
       have n0_ := aM (Kd.R_elder' (kr HO_242003.out) (Kd.R_base ho0) hb)
       have n1_ := aM (kB (kr HO_247001.out) hb)
       have n2_ := aM (Kd.R_elder' (kr HO_254003.out) (Kd.R_base ho0) hb)
       have n3_ := aM (Kd.R_elder' (kr HO_262003.out) (Kd.R_base ho0) hb)
       have n4_ := aM (kB (kr HO286.out) hb)
       have n5_ := aM (Kd.R_elder' (kr HO292.out) (Kd.R_base ho0) hb)
       have n6_ := aM (Kd.R_lower (Kd.R_new' (Kd.R_new' (Kd.R_new' (Kd.R_new' ho0 (Kd.R_lt (kr HO_242003.out))) (Kd.R_lt (kr HO_254003.out))) (Kd.R_lt (kr HO_262003.out))) (Kd.R_lt (kr HO292.out))) (below_size (bl HB.out)))
       have n7_ := aM (bB (g := gb220) (o := .cells #[.int .i64 a0_0, .slice A0_1 l0_1.length c0_1] 44 (0, 0)) (bk BK220.out) hb)
       have n8_ := aM (bB (g := gb221) (o := .cells #[.int .i64 a1_0, .int .i64 a1_1, .int .i64 a1_2, .slice A1_3 l1_3.length c1_3] 45 (0, 0)) (bk BK221.out) hb)
       have n9_ := aM (bB (g := gb241) (o := .cells #[.int .i64 t234, .int .i64 t235, .int .i64 t236, .slice Ao44 t237.length co44] 28 (0, 0)) (bk BK241.out) hb)
       have n10_ := aM (bB (g := gb246) (o := .cells #[.int .i64 t242, .slice Ao54 t276.length co54] 26 (0, 0)) (bk BK246.out) hb)
       have n11_ := aM (bB (g := gb253) (o := .cells #[.int .i64 t247, .int .i64 t248, .int .i64 t249, .slice Ao64 t278.length co64] 28 (0, 0)) (bk BK253.out) hb)
       have n12_ := aM (bB (g := gb261) (o := .cells #[.int .i64 t254, .int .i64 t255, .int .i64 t256, .slice Ao74 t257.length co74] 28 (0, 0)) (bk BK261.out) hb)
       have n13_ := aM (bB (g := gb300) (o := .cells #[.int .i64 0, .int .i64 0, .int .i64 0, .slice none 0 0] 28 (0, 0)) (bk BK300.out) hb)
       have n14_ := aM (bS (bl HB.out) hb)
       clear HO_242003 HO_247001
       clear HO_254003 HO_262003
       clear HO286 HO292
       clear BK220 BK221
       clear BK241 BK246
       clear BK253 BK261
       clear BK300 HB
       have HO_242003 := n0_
       have HO_247001 := n1_
       have HO_254003 := n2_
       have HO_262003 := n3_
       have HO286 := n4_
       have HO292 := n5_
       have HO298 := n6_
       have BK220 := n7_
       have BK221 := n8_
       have BK241 := n9_
       have BK246 := n10_
       have BK253 := n11_
       have BK261 := n12_
       have BK300 := n13_
       have HB := n14_
       clear n0_ n1_ n2_ n3_ n4_ n5_ n6_ n7_ n8_ n9_ n10_ n11_ n12_ n13_ n14_
       (try clear hb)
       (try clear hb2)
       (try clear hk)
       (try clear hi)
       (try clear ho0)
       refine hK.out _ _ ⟨cI BK220.out 0, cI BK220.out 1, cI BK221.out 0, cI BK221.out 1, cI BK221.out 2, cI BK221.out 3⟩ (fun hHeld => ?_)
       clear hK K
       refine norm_ (a' := ?_) ?_ ?_
       rotate_left
       ·show Act.put _ (some 99) _ = _
        simp only [Act.put, sA, sZ, sS, i64_w, i32_w]
        rfl
       refine pure_ (i := 5) (N := some 94) (v := ?_) (a' := ?_) #[Y,Y,Y,Y,Y,Y,U,U,Y,U,U] rfl rfl (any_of HT_.out (by kernel_rfl)) (fun _ _ _ h => h) (Or.inl ⟨by rfl, ?_⟩) ?_ ?_
       rotate_left
       ·intro w'
        go_simp
        with_reducible rfl
       rotate_left
       ·simp only [Act.put, sA, sZ, sS, i64_w, i32_w]
        rfl
       refine pure_ (i := 6) (N := some 100) (v := ?_) (a' := ?_) #[Y,Y,Y,Y,Y,Y,Y,U,Y,U,U] rfl rfl (any_of HT_.out (by kernel_rfl)) (fun _ _ _ h => h) (Or.inl ⟨by rfl, ?_⟩) ?_ ?_
       rotate_left
       ·intro w'
        go_simp
        with_reducible rfl
       rotate_left
       ·simp only [Act.put, sA, sZ, sS, i64_w, i32_w]
        rfl
       refine pure_ (i := 7) (N := some 101) (v := ?_) (a' := ?_) #[Y,Y,Y,Y,Y,Y,Y,Y,Y,U,U] rfl rfl (any_of HT_.out (by kernel_rfl)) (fun _ _ _ h => h) (Or.inl ⟨by rfl, ?_⟩) ?_ ?_
       rotate_left
       ·intro w'
        go_simp
        with_reducible rfl
       rotate_left
       ·simp only [Act.put, sA, sZ, sS, i64_w, i32_w]
        rfl
       exact norm_ (by simp only [putAll, Act.put, sA, sZ, sS]) (hCont (.slice Ao190 t284.length co190, .slice Ao191 t290.length co191, v297, gb300) _ ⟨hHeld, (kr (Kd.R_mono HO286.out (fun _ hk => hk.2))), (kr (Kd.R_mono HO292.out (fun _ hk => ⟨hk.2, ⟨hk.1.1.1.2, ⟨hk.1.1.2, hk.1.2⟩⟩⟩))), (kr (Kd.R_mono HO298.out (fun _ hk => ⟨hk.2, ⟨hk.1.1.1.2, ⟨hk.1.1.2, hk.1.2⟩⟩⟩))), (kr (Kd.R_mono HO_242003.out (fun _ hk => ⟨hk.1.2, ⟨hk.2, ⟨hk.1.1.1, hk.1.1.2⟩⟩⟩))), (kr (Kd.R_mono HO_247001.out (fun _ hk => hk.2))), (kr (Kd.R_mono HO_254003.out (fun _ hk => ⟨hk.1.2, ⟨hk.2, ⟨hk.1.1.1, hk.1.1.2⟩⟩⟩))), (kr (Kd.R_mono HO_262003.out (fun _ hk => ⟨hk.1.2, ⟨hk.2, ⟨hk.1.1.1, hk.1.1.2⟩⟩⟩))), (bk BK220.out), (bk BK221.out), (bk BK241.out), (bk BK246.out), (bk BK253.out), (bk BK261.out), (bk BK300.out), GW300.out, GE300.out, NB220_300.out, NB300_220.out, NB221_300.out, NB300_221.out, NB241_300.out, NB300_241.out, NB246_300.out, NB300_246.out, NB253_300.out, NB300_253.out, NB261_300.out, NB300_261.out, (bl HB.out)⟩)
     rintro ⟨v285, v291, v297, gb300⟩ w193 ⟨hS_, h0_, h1_, h2_, h3_, h4_, h5_, h6_, h7_, h8_, h9_, h10_, h11_, h12_, h13_, h14_, h15_, h16_, h17_, h18_, h19_, h20_, h21_, h22_, h23_, h24_, h25_, h26_, h27_, h28_⟩
     have n0_ : Aside0 (Kd.R (Kd.int .i64) 3 w193 w.heap.size (fun k_ => some k_ ≠ (.slice Ao54 t276.length co54 : Value).ownBlock) v285 t284) := ⟨h0_⟩
     have n1_ : Aside0 (Kd.R (Kd.int .u8) 5 w193 w.heap.size (fun k_ => some k_ ≠ (v297 : Value).ownBlock ∧ some k_ ≠ (.slice Ao44 t237.length co44 : Value).ownBlock ∧ some k_ ≠ (.slice Ao64 t278.length co64 : Value).ownBlock ∧ some k_ ≠ (.slice Ao74 t257.length co74 : Value).ownBlock) v291 t290) := ⟨h1_⟩
     have n2_ : Aside0 (Kd.R (Kd.int .u8) 5 w193 w.heap.size (fun k_ => some k_ ≠ (v291 : Value).ownBlock ∧ some k_ ≠ (.slice Ao44 t237.length co44 : Value).ownBlock ∧ some k_ ≠ (.slice Ao64 t278.length co64 : Value).ownBlock ∧ some k_ ≠ (.slice Ao74 t257.length co74 : Value).ownBlock) v297 t296) := ⟨h2_⟩
     have n3_ : Aside0 (Kd.R (Kd.int .u8) 5 w193 w.heap.size (fun k_ => some k_ ≠ (v291 : Value).ownBlock ∧ some k_ ≠ (v297 : Value).ownBlock ∧ some k_ ≠ (.slice Ao64 t278.length co64 : Value).ownBlock ∧ some k_ ≠ (.slice Ao74 t257.length co74 : Value).ownBlock) (.slice Ao44 t237.length co44) t237) := ⟨h3_⟩
     have n4_ : Aside0 (Kd.R (Kd.int .i64) 3 w193 w.heap.size (fun k_ => some k_ ≠ (v285 : Value).ownBlock) (.slice Ao54 t276.length co54) t276) := ⟨h4_⟩
     have n5_ : Aside0 (Kd.R (Kd.int .u8) 5 w193 w.heap.size (fun k_ => some k_ ≠ (v291 : Value).ownBlock ∧ some k_ ≠ (v297 : Value).ownBlock ∧ some k_ ≠ (.slice Ao44 t237.length co44 : Value).ownBlock ∧ some k_ ≠ (.slice Ao74 t257.length co74 : Value).ownBlock) (.slice Ao64 t278.length co64) t278) := ⟨h5_⟩
     have n6_ : Aside0 (Kd.R (Kd.int .u8) 5 w193 w.heap.size (fun k_ => some k_ ≠ (v291 : Value).ownBlock ∧ some k_ ≠ (v297 : Value).ownBlock ∧ some k_ ≠ (.slice Ao44 t237.length co44 : Value).ownBlock ∧ some k_ ≠ (.slice Ao64 t278.length co64 : Value).ownBlock) (.slice Ao74 t257.length co74) t281) := ⟨h6_⟩
     have n7_ : Aside0 (w193.heap[gb220]? = some (.cells #[.int .i64 a0_0, .slice A0_1 l0_1.length c0_1] 44 (0, 0))) := ⟨h7_⟩
     have n8_ : Aside0 (w193.heap[gb221]? = some (.cells #[.int .i64 a1_0, .int .i64 a1_1, .int .i64 a1_2, .slice A1_3 l1_3.length c1_3] 45 (0, 0))) := ⟨h8_⟩
     have n9_ : Aside0 (w193.heap[gb241]? = some (.cells #[.int .i64 t234, .int .i64 t235, .int .i64 t236, .slice Ao44 t237.length co44] 28 (0, 0))) := ⟨h9_⟩
     have n10_ : Aside0 (w193.heap[gb246]? = some (.cells #[.int .i64 t242, .slice Ao54 t276.length co54] 26 (0, 0))) := ⟨h10_⟩
     have n11_ : Aside0 (w193.heap[gb253]? = some (.cells #[.int .i64 t247, .int .i64 t248, .int .i64 t249, .slice Ao64 t278.length co64] 28 (0, 0))) := ⟨h11_⟩
     have n12_ : Aside0 (w193.heap[gb261]? = some (.cells #[.int .i64 t254, .int .i64 t255, .int .i64 t256, .slice Ao74 t257.length co74] 28 (0, 0))) := ⟨h12_⟩
     have n13_ : Aside0 (w193.heap[gb300]? = some (.cells #[.int .i64 0, .int .i64 0, .int .i64 0, .slice none 0 0] 28 (0, 0))) := ⟨h13_⟩
     have n14_ : Aside0 (w.heap.size ≤ gb300) := ⟨h14_⟩
     have n15_ : Aside0 (w.heap.size ≤ gb300) := ⟨h15_⟩
     have n16_ : Aside0 (gb220 ≠ gb300) := ⟨h16_⟩
     have n17_ : Aside0 (gb300 ≠ gb220) := ⟨h17_⟩
     have n18_ : Aside0 (gb221 ≠ gb300) := ⟨h18_⟩
     have n19_ : Aside0 (gb300 ≠ gb221) := ⟨h19_⟩
     have n20_ : Aside0 (gb241 ≠ gb300) := ⟨h20_⟩
     have n21_ : Aside0 (gb300 ≠ gb241) := ⟨h21_⟩
     have n22_ : Aside0 (gb246 ≠ gb300) := ⟨h22_⟩
     have n23_ : Aside0 (gb300 ≠ gb246) := ⟨h23_⟩
     have n24_ : Aside0 (gb253 ≠ gb300) := ⟨h24_⟩
     have n25_ : Aside0 (gb300 ≠ gb253) := ⟨h25_⟩
     have n26_ : Aside0 (gb261 ≠ gb300) := ⟨h26_⟩
     have n27_ : Aside0 (gb300 ≠ gb261) := ⟨h27_⟩
     have n28_ : Aside0 (Below w.heap.size w w193) := ⟨h28_⟩
     clear HO_242003 HO_247001
     clear HO_254003 HO_262003
     clear BK220 BK221
     clear BK241 BK246
     clear BK253 BK261 HB
     clear h0_ h1_ h2_ h3_ h4_ h5_ h6_ h7_ h8_ h9_ h10_ h11_ h12_ h13_ h14_ h15_ h16_ h17_ h18_ h19_ h20_ h21_ h22_ h23_ h24_ h25_ h26_ h27_ h28_
     have HO286 := n0_
     have HO292 := n1_
     have HO298 := n2_
     have HO_242003 := n3_
     have HO_247001 := n4_
     have HO_254003 := n5_
     have HO_262003 := n6_
     have BK220 := n7_
     have BK221 := n8_
     have BK241 := n9_
     have BK246 := n10_
     have BK253 := n11_
     have BK261 := n12_
     have BK300 := n13_
     have GW300 := n14_
     have GE300 := n15_
     have NB220_300 := n16_
     have NB300_220 := n17_
     have NB221_300 := n18_
     have NB300_221 := n19_
     have NB241_300 := n20_
     have NB300_241 := n21_
     have NB246_300 := n22_
     have NB300_246 := n23_
     have NB253_300 := n24_
     have NB300_253 := n25_
     have NB261_300 := n26_
     have NB300_261 := n27_
     have HB := n28_
     clear n0_ n1_ n2_ n3_ n4_ n5_ n6_ n7_ n8_ n9_ n10_ n11_ n12_ n13_ n14_ n15_ n16_ n17_ n18_ n19_ n20_ n21_ n22_ n23_ n24_ n25_ n26_ n27_ n28_
     have hHeld : w193.cell? ⟨gb220, 0, none⟩ = some (.int .i64 a0_0) ∧ w193.cell? ⟨gb220, 1, none⟩ = some (.slice A0_1 l0_1.length c0_1) ∧ w193.cell? ⟨gb221, 0, none⟩ = some (.int .i64 a1_0) ∧ w193.cell? ⟨gb221, 1, none⟩ = some (.int .i64 a1_1) ∧ w193.cell? ⟨gb221, 2, none⟩ = some (.int .i64 a1_2) ∧ w193.cell? ⟨gb221, 3, none⟩ = some (.slice A1_3 l1_3.length c1_3) := hS_
     obtain ⟨Ao197, co197, eo197⟩ := Kd.R_slice HO298.out
     (first | subst eo197 | (injection eo197 with f1_ f2_ f3_; have f4_ := f1_.symm; have f5_ := f3_.symm; clear f1_ f2_ f3_; subst f4_; subst f5_))
     refine norm_ (a' := ?_) ?_ ?_
     rotate_left
     ·simp only [putAll, Act.put, sA, sZ, sS]
      rfl
     refine one_ (i := 9) (N := none) #[Y,Y,Y,Y,Y,Y,Y,Y,Y,Y,U] rfl rfl (one_of HT_.out (by kernel_rfl)) (by decide) (fun K hK => ?_)
     have hs194 := cI BK300.out 0
     have hfs194 := bF BK300.out 0
     have hns194_0 := NB220_300.out
     have hns194_1 := NB221_300.out
     have hns194_2 := NB241_300.out
     have hns194_3 := NB246_300.out
     have hns194_4 := NB253_300.out
     have hns194_5 := NB261_300.out
     have hms194_0 := NB300_220.out
     have hms194_1 := NB300_221.out
     have hms194_2 := NB300_241.out
     have hms194_3 := NB300_246.out
     have hms194_4 := NB300_253.out
     have hms194_5 := NB300_261.out
     have hs195 := cI BK300.out 1
     have hfs195 := bF BK300.out 1
     have hns195_0 := NB220_300.out
     have hns195_1 := NB221_300.out
     have hns195_2 := NB241_300.out
     have hns195_3 := NB246_300.out
     have hns195_4 := NB253_300.out
     have hns195_5 := NB261_300.out
     have hms195_0 := NB300_220.out
     have hms195_1 := NB300_221.out
     have hms195_2 := NB300_241.out
     have hms195_3 := NB300_246.out
     have hms195_4 := NB300_253.out
     have hms195_5 := NB300_261.out
     have hs196 := cI BK300.out 2
     have hfs196 := bF BK300.out 2
     have hns196_0 := NB220_300.out
     have hns196_1 := NB221_300.out
     have hns196_2 := NB241_300.out
     have hns196_3 := NB246_300.out
     have hns196_4 := NB253_300.out
     have hns196_5 := NB261_300.out
     have hms196_0 := NB300_220.out
     have hms196_1 := NB300_221.out
     have hms196_2 := NB300_241.out
     have hms196_3 := NB300_246.out
     have hms196_4 := NB300_253.out
     have hms196_5 := NB300_261.out
     have hs198 := cI BK300.out 3
     have hfs198 := bF BK300.out 3
     have hns198_0 := NB220_300.out
     have hns198_1 := NB221_300.out
     have hns198_2 := NB241_300.out
     have hns198_3 := NB246_300.out
     have hns198_4 := NB253_300.out
     have hns198_5 := NB261_300.out
     have hms198_0 := NB300_220.out
     have hms198_1 := NB300_221.out
     have hms198_2 := NB300_241.out
     have hms198_3 := NB300_246.out
     have hms198_4 := NB300_253.out
     have hms198_5 := NB300_261.out
     refine skip_ (w1 := ?_) (by rfl) rfl ?_ ?_
     rotate_left
     ·go_simp
      rfl
     refine hK.out _ _ ⟨((cell_far (p := ⟨gb300, _, none⟩) NB220_300.out _).trans (((cell_far (p := ⟨gb300, _, none⟩) NB220_300.out _).trans (((cell_far (p := ⟨gb300, _, none⟩) NB220_300.out _).trans (((cell_far (p := ⟨gb300, _, none⟩) NB220_300.out _).trans (hHeld.1)))))))), ((cell_far (p := ⟨gb300, _, none⟩) NB220_300.out _).trans (((cell_far (p := ⟨gb300, _, none⟩) NB220_300.out _).trans (((cell_far (p := ⟨gb300, _, none⟩) NB220_300.out _).trans (((cell_far (p := ⟨gb300, _, none⟩) NB220_300.out _).trans (hHeld.2.1)))))))), ((cell_far (p := ⟨gb300, _, none⟩) NB221_300.out _).trans (((cell_far (p := ⟨gb300, _, none⟩) NB221_300.out _).trans (((cell_far (p := ⟨gb300, _, none⟩) NB221_300.out _).trans (((cell_far (p := ⟨gb300, _, none⟩) NB221_300.out _).trans (hHeld.2.2.1)))))))), ((cell_far (p := ⟨gb300, _, none⟩) NB221_300.out _).trans (((cell_far (p := ⟨gb300, _, none⟩) NB221_300.out _).trans (((cell_far (p := ⟨gb300, _, none⟩) NB221_300.out _).trans (((cell_far (p := ⟨gb300, _, none⟩) NB221_300.out _).trans (hHeld.2.2.2.1)))))))), ((cell_far (p := ⟨gb300, _, none⟩) NB221_300.out _).trans (((cell_far (p := ⟨gb300, _, none⟩) NB221_300.out _).trans (((cell_far (p := ⟨gb300, _, none⟩) NB221_300.out _).trans (((cell_far (p := ⟨gb300, _, none⟩) NB221_300.out _).trans (hHeld.2.2.2.2.1)))))))), ((cell_far (p := ⟨gb300, _, none⟩) NB221_300.out _).trans (((cell_far (p := ⟨gb300, _, none⟩) NB221_300.out _).trans (((cell_far (p := ⟨gb300, _, none⟩) NB221_300.out _).trans (((cell_far (p := ⟨gb300, _, none⟩) NB221_300.out _).trans (hHeld.2.2.2.2.2))))))))⟩ (fun hHeld => ?_)
     clear hK K
     refine pure_ (i := 10) (N := some 16) (v := ?_) (a' := ?_) #[Y,Y,Y,Y,Y,Y,Y,Y,Y,Y,Y] rfl rfl (any_of HT_.out (by kernel_rfl)) (fun _ _ _ h => h) (Or.inl ⟨by rfl, ?_⟩) ?_ ?_
     rotate_left
     ·intro w'
      go_simp
      with_reducible rfl
     rotate_left
     ·simp only [Act.put, sA, sZ, sS, i64_w, i32_w]
      rfl
     refine done_ (done_of HT_.out (by kernel_rfl)) ?_
     go_upto_region 32 with (fail)
     go_cut [110] (fun v110 wc => ∃ (kq : Nat) (x110_175 : Bool), v110 = .bool x110_175 ∧ Aside0 (laws_FnExactInside.j2 kq t280 x110_175 t254 t255 t256 t281 = some true) ∧ Aside0 (kq ≤ kj109) ∧ Aside0 (Kd.R (Kd.int .u8) 5 wc w.heap.size (fun k_ => some k_ ≠ ((.slice Ao64 t278.length co64) : Value).ownBlock ∧ some k_ ≠ ((.slice Ao74 t257.length co74) : Value).ownBlock ∧ some k_ ≠ ((.slice Ao197 t296.length co197) : Value).ownBlock) (.slice Ao44 t237.length co44) t237) ∧ Aside0 (Kd.R (Kd.int .i64) 3 wc w.heap.size (fun _ => True) (.slice Ao54 t276.length co54) t276) ∧ Aside0 (Kd.R (Kd.int .u8) 5 wc w.heap.size (fun k_ => some k_ ≠ ((.slice Ao44 t237.length co44) : Value).ownBlock ∧ some k_ ≠ ((.slice Ao74 t257.length co74) : Value).ownBlock ∧ some k_ ≠ ((.slice Ao197 t296.length co197) : Value).ownBlock) (.slice Ao64 t278.length co64) t278) ∧ Aside0 (Kd.R (Kd.int .u8) 5 wc w.heap.size (fun k_ => some k_ ≠ ((.slice Ao44 t237.length co44) : Value).ownBlock ∧ some k_ ≠ ((.slice Ao64 t278.length co64) : Value).ownBlock ∧ some k_ ≠ ((.slice Ao197 t296.length co197) : Value).ownBlock) (.slice Ao74 t257.length co74) t281) ∧ Aside0 (Kd.R (Kd.int .u8) 5 wc w.heap.size (fun k_ => some k_ ≠ ((.slice Ao44 t237.length co44) : Value).ownBlock ∧ some k_ ≠ ((.slice Ao64 t278.length co64) : Value).ownBlock ∧ some k_ ≠ ((.slice Ao74 t257.length co74) : Value).ownBlock) (.slice Ao197 t296.length co197) t296) ∧ Aside0 (wc.heap[gb220]? = some (.cells #[.int .i64 a0_0, (.slice A0_1 l0_1.length c0_1)] 44 (0, 0))) ∧ Aside0 (wc.heap[gb221]? = some (.cells #[.int .i64 a1_0, .int .i64 a1_1, .int .i64 a1_2, (.slice A1_3 l1_3.length c1_3)] 45 (0, 0))) ∧ Aside0 (wc.heap[gb241]? = some (.cells #[.int .i64 t234, .int .i64 t235, .int .i64 t236, (.slice Ao44 t237.length co44)] 28 (0, 0))) ∧ Aside0 (wc.heap[gb246]? = some (.cells #[.int .i64 t242, (.slice Ao54 t276.length co54)] 26 (0, 0))) ∧ Aside0 (wc.heap[gb253]? = some (.cells #[.int .i64 t247, .int .i64 t248, .int .i64 t249, (.slice Ao64 t278.length co64)] 28 (0, 0))) ∧ Aside0 (wc.heap[gb261]? = some (.cells #[.int .i64 t254, .int .i64 t255, .int .i64 t256, (.slice Ao74 t257.length co74)] 28 (0, 0))) ∧ Aside0 (wc.heap[gb300]? = some (.cells #[.int .i64 t293, .int .i64 t294, .int .i64 t295, (.slice Ao197 t296.length co197)] 28 (0, 0))) ∧ Aside0 (Below w.heap.size w wc))
     case first =>
      have H := HC176.out
      clear HC176
      replace H := Option.bind_eq_some_iff.mp H
      obtain ⟨t301, A1990, H⟩ := H
      replace H : (if t301 = true then (laws_FnExactInside.j2 kj109 t280 (t299 != t240) t254 t255 t256 t281) else (laws_FnExactInside.j2 kj109 t280 true t254 t255 t256 t281)) = some true := H
      have A199 := aM A1990
      clear A1990
      by_cases c200 : t301 = true
      case neg =>
       replace c200 := Bool.eq_false_iff.mpr c200
       subst c200
       have H1 : (laws_FnExactInside.j2 kj109 t280 true t254 t255 t256 t281) = some true := by first | (rw [if_neg (show ¬ (false = true) by decide)] at H; exact H) | (rw [if_neg (show ¬ (false = true) by decide)] at H)
       clear H
       have H := H1
       clear H1
       exact absurd H (by cases kj109 <;> (simp only [laws_FnExactInside.j2, if_true]) <;> decide)
      subst c200
      have H1 : (laws_FnExactInside.j2 kj109 t280 (t299 != t240) t254 t255 t256 t281) = some true := by first | (rw [if_pos rfl] at H; exact H) | (rw [if_pos rfl] at H)
      clear H
      have H := H1
      clear H1
      have H' := aM H
      clear H
      have hnb201 := NB300_220.out
      have hnc201 := NB220_300.out
      have hnb202 := NB300_221.out
      have hnc202 := NB221_300.out
      have hnb203 := NB300_241.out
      have hnc203 := NB241_300.out
      have hnb204 := NB300_246.out
      have hnc204 := NB246_300.out
      have hnb205 := NB300_253.out
      have hnc205 := NB253_300.out
      have hnb206 := NB300_261.out
      have hnc206 := NB261_300.out
      have hcz207_0 := cI BK300.out 0
      have hcz207_1 := cI BK300.out 1
      have hcz207_2 := cI BK300.out 2
      have hcz207_3 := cI BK300.out 3
      have hfz207_0 := bF BK300.out 0
      have hfz207_1 := bF BK300.out 1
      have hfz207_2 := bF BK300.out 2
      have hfz207_3 := bF BK300.out 3
      have hnb208 := NB241_220.out
      have hnc208 := NB220_241.out
      have hnb209 := NB241_221.out
      have hnc209 := NB221_241.out
      have hnb210 := NB241_246.out
      have hnc210 := NB246_241.out
      have hnb211 := NB241_253.out
      have hnc211 := NB253_241.out
      have hnb212 := NB241_261.out
      have hnc212 := NB261_241.out
      have hcz213_0 := cI BK241.out 0
      have hcz213_1 := cI BK241.out 1
      have hcz213_2 := cI BK241.out 2
      have hcz213_3 := cI BK241.out 3
      have hfz213_0 := bF BK241.out 0
      have hfz213_1 := bF BK241.out 1
      have hfz213_2 := bF BK241.out 2
      have hfz213_3 := bF BK241.out 3
      go_wp2_with (first | ((with_reducible refine gate_callee (f := 34) rfl ?_); refine goesL_ (some 104) rfl rfl Try.func34 (by kernel_rfl) rfl #[.agg #[.int .i64 t293, .int .i64 t294, .int .i64 t295, .slice Ao197 t296.length co197], .agg #[.int .i64 t234, .int .i64 t235, .int .i64 t236, .slice Ao44 t237.length co44]] rfl xR ?_; (with_reducible refine (laws_eqFrame.calls kj109 t293 t294 t295 _ _ t296 t234 t235 t236 _ _ t237 true _ ?side1 ?side2 ?side3 ?side4 A199.out).mono ?_); (case side1 => refine (Kd.R_reads' (e := 5) (base := w.heap.size) (ok := fun k_ => (some k_ ≠ (v291 : Value).ownBlock ∧ (some k_ ≠ (.slice Ao44 t237.length co44 : Value).ownBlock ∧ (some k_ ≠ (.slice Ao64 t278.length co64 : Value).ownBlock ∧ some k_ ≠ (.slice Ao74 t257.length co74 : Value).ownBlock)))) (n := t296.length) (c := co197) ?_).2.2; exact (kr (Kd.R_mono (kF (p := ⟨gb300, 3, none⟩) (kF (p := ⟨gb300, 2, none⟩) (kF (p := ⟨gb300, 1, none⟩) (kF (p := ⟨gb300, 0, none⟩) (Kd.R_types HO298.out BK300.out (by decide)) (fun _ hk => hk.2) (.int .i64 t293)) (fun _ hk => hk.2) (.int .i64 t294)) (fun _ hk => hk.2) (.int .i64 t295)) (fun _ hk => hk.2) (.slice Ao197 t296.length co197)) (fun _ h_ => h_.1)))); (case side2 => exact (Kd.R_reads' HO298.out).2.1); (case side3 => refine (Kd.R_reads' (e := 5) (base := w.heap.size) (ok := fun k_ => (some k_ ≠ (v291 : Value).ownBlock ∧ (some k_ ≠ (.slice Ao197 t296.length co197 : Value).ownBlock ∧ (some k_ ≠ (.slice Ao64 t278.length co64 : Value).ownBlock ∧ some k_ ≠ (.slice Ao74 t257.length co74 : Value).ownBlock)))) (n := t237.length) (c := co44) ?_).2.2; exact (kr (Kd.R_mono (kF (p := ⟨gb300, 3, none⟩) (kF (p := ⟨gb300, 2, none⟩) (kF (p := ⟨gb300, 1, none⟩) (kF (p := ⟨gb300, 0, none⟩) (Kd.R_types HO_242003.out BK300.out (by decide)) (fun _ hk => hk.2) (.int .i64 t293)) (fun _ hk => hk.2) (.int .i64 t294)) (fun _ hk => hk.2) (.int .i64 t295)) (fun _ hk => hk.2) (.slice Ao197 t296.length co197)) (fun _ h_ => h_.1)))); (case side4 => exact (Kd.R_reads' HO_242003.out).2.1); rintro e w214 ⟨rfl, hb⟩; refine ⟨_, rfl, ?_⟩; have n0_ := aM (kB (kr (Kd.R_mono (kF (p := ⟨gb300, 3, none⟩) (kF (p := ⟨gb300, 2, none⟩) (kF (p := ⟨gb300, 1, none⟩) (kF (p := ⟨gb300, 0, none⟩) (Kd.R_types HO_242003.out BK300.out (by decide)) (fun _ hk => hk.2) (.int .i64 t293)) (fun _ hk => hk.2) (.int .i64 t294)) (fun _ hk => hk.2) (.int .i64 t295)) (fun _ hk => hk.2) (.slice Ao197 t296.length co197)) (fun _ h_ => h_.1))) hb); have n1_ := aM (kB (kr (Kd.R_mono (kF (p := ⟨gb300, 3, none⟩) (kF (p := ⟨gb300, 2, none⟩) (kF (p := ⟨gb300, 1, none⟩) (kF (p := ⟨gb300, 0, none⟩) (Kd.R_types HO_247001.out BK300.out (by decide)) (fun _ hk => hk.2) (.int .i64 t293)) (fun _ hk => hk.2) (.int .i64 t294)) (fun _ hk => hk.2) (.int .i64 t295)) (fun _ hk => hk.2) (.slice Ao197 t296.length co197)) (fun _ h_ => h_.1))) hb); have n2_ := aM (kB (kr (Kd.R_mono (kF (p := ⟨gb300, 3, none⟩) (kF (p := ⟨gb300, 2, none⟩) (kF (p := ⟨gb300, 1, none⟩) (kF (p := ⟨gb300, 0, none⟩) (Kd.R_types HO_254003.out BK300.out (by decide)) (fun _ hk => hk.2) (.int .i64 t293)) (fun _ hk => hk.2) (.int .i64 t294)) (fun _ hk => hk.2) (.int .i64 t295)) (fun _ hk => hk.2) (.slice Ao197 t296.length co197)) (fun _ h_ => h_.1))) hb); have n3_ := aM (kB (kr (Kd.R_mono (kF (p := ⟨gb300, 3, none⟩) (kF (p := ⟨gb300, 2, none⟩) (kF (p := ⟨gb300, 1, none⟩) (kF (p := ⟨gb300, 0, none⟩) (Kd.R_types HO_262003.out BK300.out (by decide)) (fun _ hk => hk.2) (.int .i64 t293)) (fun _ hk => hk.2) (.int .i64 t294)) (fun _ hk => hk.2) (.int .i64 t295)) (fun _ hk => hk.2) (.slice Ao197 t296.length co197)) (fun _ h_ => h_.1))) hb); have n4_ := aM (kB (kr (Kd.R_mono (kF (p := ⟨gb300, 3, none⟩) (kF (p := ⟨gb300, 2, none⟩) (kF (p := ⟨gb300, 1, none⟩) (kF (p := ⟨gb300, 0, none⟩) (Kd.R_types HO286.out BK300.out (by decide)) (fun _ hk => hk.2) (.int .i64 t293)) (fun _ hk => hk.2) (.int .i64 t294)) (fun _ hk => hk.2) (.int .i64 t295)) (fun _ hk => hk.2) (.slice Ao197 t296.length co197)) (fun _ h_ => h_.1))) hb); have n5_ := aM (kB (kr (Kd.R_mono (kF (p := ⟨gb300, 3, none⟩) (kF (p := ⟨gb300, 2, none⟩) (kF (p := ⟨gb300, 1, none⟩) (kF (p := ⟨gb300, 0, none⟩) (Kd.R_types HO292.out BK300.out (by decide)) (fun _ hk => hk.2) (.int .i64 t293)) (fun _ hk => hk.2) (.int .i64 t294)) (fun _ hk => hk.2) (.int .i64 t295)) (fun _ hk => hk.2) (.slice Ao197 t296.length co197)) (fun _ h_ => h_.1))) hb); have n6_ := aM (kB (kr (Kd.R_mono (kF (p := ⟨gb300, 3, none⟩) (kF (p := ⟨gb300, 2, none⟩) (kF (p := ⟨gb300, 1, none⟩) (kF (p := ⟨gb300, 0, none⟩) (Kd.R_types HO298.out BK300.out (by decide)) (fun _ hk => hk.2) (.int .i64 t293)) (fun _ hk => hk.2) (.int .i64 t294)) (fun _ hk => hk.2) (.int .i64 t295)) (fun _ hk => hk.2) (.slice Ao197 t296.length co197)) (fun _ h_ => h_.1))) hb); have n7_ := aM (bB (g := gb220) (o := .cells #[.int .i64 a0_0, .slice A0_1 l0_1.length c0_1] 44 (0, 0)) (by (with_reducible repeat (first | refine blk_drewN ?_ _ | refine blk_drew ?_ | refine blk_alloc ?_ _)); refine blk_far ?_ NB220_300.out _; (with_reducible repeat (first | refine blk_drewN ?_ _ | refine blk_drew ?_ | refine blk_alloc ?_ _)); refine blk_far ?_ NB220_300.out _; (with_reducible repeat (first | refine blk_drewN ?_ _ | refine blk_drew ?_ | refine blk_alloc ?_ _)); refine blk_far ?_ NB220_300.out _; (with_reducible repeat (first | refine blk_drewN ?_ _ | refine blk_drew ?_ | refine blk_alloc ?_ _)); refine blk_far ?_ NB220_300.out _; (with_reducible repeat (first | refine blk_drewN ?_ _ | refine blk_drew ?_ | refine blk_alloc ?_ _)); exact BK220.out) hb); have n8_ := aM (bB (g := gb221) (o := .cells #[.int .i64 a1_0, .int .i64 a1_1, .int .i64 a1_2, .slice A1_3 l1_3.length c1_3] 45 (0, 0)) (by (with_reducible repeat (first | refine blk_drewN ?_ _ | refine blk_drew ?_ | refine blk_alloc ?_ _)); refine blk_far ?_ NB221_300.out _; (with_reducible repeat (first | refine blk_drewN ?_ _ | refine blk_drew ?_ | refine blk_alloc ?_ _)); refine blk_far ?_ NB221_300.out _; (with_reducible repeat (first | refine blk_drewN ?_ _ | refine blk_drew ?_ | refine blk_alloc ?_ _)); refine blk_far ?_ NB221_300.out _; (with_reducible repeat (first | refine blk_drewN ?_ _ | refine blk_drew ?_ | refine blk_alloc ?_ _)); refine blk_far ?_ NB221_300.out _; (with_reducible repeat (first | refine blk_drewN ?_ _ | refine blk_drew ?_ | refine blk_alloc ?_ _)); exact BK221.out) hb); have n9_ := aM (bB (g := gb241) (o := .cells #[.int .i64 t234, .int .i64 t235, .int .i64 t236, .slice Ao44 t237.length co44] 28 (0, 0)) (by (with_reducible repeat (first | refine blk_drewN ?_ _ | refine blk_drew ?_ | refine blk_alloc ?_ _)); refine blk_far ?_ NB241_300.out _; (with_reducible repeat (first | refine blk_drewN ?_ _ | refine blk_drew ?_ | refine blk_alloc ?_ _)); refine blk_far ?_ NB241_300.out _; (with_reducible repeat (first | refine blk_drewN ?_ _ | refine blk_drew ?_ | refine blk_alloc ?_ _)); refine blk_far ?_ NB241_300.out _; (with_reducible repeat (first | refine blk_drewN ?_ _ | refine blk_drew ?_ | refine blk_alloc ?_ _)); refine blk_far ?_ NB241_300.out _; (with_reducible repeat (first | refine blk_drewN ?_ _ | refine blk_drew ?_ | refine blk_alloc ?_ _)); exact BK241.out) hb); have n10_ := aM (bB (g := gb246) (o := .cells #[.int .i64 t242, .slice Ao54 t276.length co54] 26 (0, 0)) (by (with_reducible repeat (first | refine blk_drewN ?_ _ | refine blk_drew ?_ | refine blk_alloc ?_ _)); refine blk_far ?_ NB246_300.out _; (with_reducible repeat (first | refine blk_drewN ?_ _ | refine blk_drew ?_ | refine blk_alloc ?_ _)); refine blk_far ?_ NB246_300.out _; (with_reducible repeat (first | refine blk_drewN ?_ _ | refine blk_drew ?_ | refine blk_alloc ?_ _)); refine blk_far ?_ NB246_300.out _; (with_reducible repeat (first | refine blk_drewN ?_ _ | refine blk_drew ?_ | refine blk_alloc ?_ _)); refine blk_far ?_ NB246_300.out _; (with_reducible repeat (first | refine blk_drewN ?_ _ | refine blk_drew ?_ | refine blk_alloc ?_ _)); exact BK246.out) hb); have n11_ := aM (bB (g := gb253) (o := .cells #[.int .i64 t247, .int .i64 t248, .int .i64 t249, .slice Ao64 t278.length co64] 28 (0, 0)) (by (with_reducible repeat (first | refine blk_drewN ?_ _ | refine blk_drew ?_ | refine blk_alloc ?_ _)); refine blk_far ?_ NB253_300.out _; (with_reducible repeat (first | refine blk_drewN ?_ _ | refine blk_drew ?_ | refine blk_alloc ?_ _)); refine blk_far ?_ NB253_300.out _; (with_reducible repeat (first | refine blk_drewN ?_ _ | refine blk_drew ?_ | refine blk_alloc ?_ _)); refine blk_far ?_ NB253_300.out _; (with_reducible repeat (first | refine blk_drewN ?_ _ | refine blk_drew ?_ | refine blk_alloc ?_ _)); refine blk_far ?_ NB253_300.out _; (with_reducible repeat (first | refine blk_drewN ?_ _ | refine blk_drew ?_ | refine blk_alloc ?_ _)); exact BK253.out) hb); have n12_ := aM (bB (g := gb261) (o := .cells #[.int .i64 t254, .int .i64 t255, .int .i64 t256, .slice Ao74 t257.length co74] 28 (0, 0)) (by (with_reducible repeat (first | refine blk_drewN ?_ _ | refine blk_drew ?_ | refine blk_alloc ?_ _)); refine blk_far ?_ NB261_300.out _; (with_reducible repeat (first | refine blk_drewN ?_ _ | refine blk_drew ?_ | refine blk_alloc ?_ _)); refine blk_far ?_ NB261_300.out _; (with_reducible repeat (first | refine blk_drewN ?_ _ | refine blk_drew ?_ | refine blk_alloc ?_ _)); refine blk_far ?_ NB261_300.out _; (with_reducible repeat (first | refine blk_drewN ?_ _ | refine blk_drew ?_ | refine blk_alloc ?_ _)); refine blk_far ?_ NB261_300.out _; (with_reducible repeat (first | refine blk_drewN ?_ _ | refine blk_drew ?_ | refine blk_alloc ?_ _)); exact BK261.out) hb); have n13_ := aM (bB (g := gb300) (o := .cells #[.int .i64 t293, .int .i64 t294, .int .i64 t295, .slice Ao197 t296.length co197] 28 (0, 0)) (by (with_reducible repeat (first | refine blk_drewN ?_ _ | refine blk_drew ?_ | refine blk_alloc ?_ _)); refine blk_put (cs := #[.int .i64 t293, .int .i64 t294, .int .i64 t295, .slice none 0 0]) ?_ 3 _ rfl; (with_reducible repeat (first | refine blk_drewN ?_ _ | refine blk_drew ?_ | refine blk_alloc ?_ _)); refine blk_put (cs := #[.int .i64 t293, .int .i64 t294, .int .i64 0, .slice none 0 0]) ?_ 2 _ rfl; (with_reducible repeat (first | refine blk_drewN ?_ _ | refine blk_drew ?_ | refine blk_alloc ?_ _)); refine blk_put (cs := #[.int .i64 t293, .int .i64 0, .int .i64 0, .slice none 0 0]) ?_ 1 _ rfl; (with_reducible repeat (first | refine blk_drewN ?_ _ | refine blk_drew ?_ | refine blk_alloc ?_ _)); refine blk_put (cs := #[.int .i64 0, .int .i64 0, .int .i64 0, .slice none 0 0]) ?_ 0 _ rfl; (with_reducible repeat (first | refine blk_drewN ?_ _ | refine blk_drew ?_ | refine blk_alloc ?_ _)); exact BK300.out) hb); have n14_ := aM (bS (bl HB.out) hb); clear HO_242003 HO_247001; clear HO_254003 HO_262003; clear HO286 HO292; clear HO298 BK220; clear BK221 BK241; clear BK246 BK253; clear BK261 BK300 HB; have HO_242003 := n0_; have HO_247001 := n1_; have HO_254003 := n2_; have HO_262003 := n3_; have HO286 := n4_; have HO292 := n5_; have HO298 := n6_; have BK220 := n7_; have BK221 := n8_; have BK241 := n9_; have BK246 := n10_; have BK253 := n11_; have BK261 := n12_; have BK300 := n13_; have HB := n14_; clear n0_ n1_ n2_ n3_ n4_ n5_ n6_ n7_ n8_ n9_ n10_ n11_ n12_ n13_ n14_; (try clear hb)))
      go_meet
      case rel => exact ⟨_, ((t299 != t240)), xE, H', ⟨by have := HJ24.out; have := HJ109.out; first | omega | exact Nat.le_refl _⟩, ⟨by (try simp only [hl247001_109]); (try simp only [hl254003_109]); (with_reducible repeat (first | apply Kd.R_alloc | apply Kd.R_drewN | apply Kd.R_drew)); exact Kd.R_mono HO_242003.out (fun _ hk => ⟨hk.2.2.1, ⟨hk.2.2.2, hk.2.1⟩⟩)⟩, ⟨by (try simp only [hl247001_109]); (try simp only [hl254003_109]); (with_reducible repeat (first | apply Kd.R_alloc | apply Kd.R_drewN | apply Kd.R_drew)); exact Kd.R_mono HO_247001.out (fun _ hk => trivial)⟩, ⟨by (try simp only [hl247001_109]); (try simp only [hl254003_109]); (with_reducible repeat (first | apply Kd.R_alloc | apply Kd.R_drewN | apply Kd.R_drew)); exact Kd.R_mono HO_254003.out (fun _ hk => ⟨hk.2.2.1, ⟨hk.2.2.2, hk.2.1⟩⟩)⟩, ⟨by (try simp only [hl247001_109]); (try simp only [hl254003_109]); (with_reducible repeat (first | apply Kd.R_alloc | apply Kd.R_drewN | apply Kd.R_drew)); exact Kd.R_mono HO_262003.out (fun _ hk => ⟨hk.2.2.1, ⟨hk.2.2.2, hk.2.1⟩⟩)⟩, ⟨by (try simp only [hl247001_109]); (try simp only [hl254003_109]); (with_reducible repeat (first | apply Kd.R_alloc | apply Kd.R_drewN | apply Kd.R_drew)); exact Kd.R_mono HO298.out (fun _ hk => ⟨hk.2.1, ⟨hk.2.2.1, hk.2.2.2⟩⟩)⟩, ⟨by (try simp only [hl247001_109]); (try simp only [hl254003_109]); (with_reducible repeat (first | refine blk_drewN ?_ _ | refine blk_drew ?_ | refine blk_alloc ?_ _)); exact BK220.out⟩, ⟨by (try simp only [hl247001_109]); (try simp only [hl254003_109]); (with_reducible repeat (first | refine blk_drewN ?_ _ | refine blk_drew ?_ | refine blk_alloc ?_ _)); exact BK221.out⟩, ⟨by (try simp only [hl247001_109]); (try simp only [hl254003_109]); (with_reducible repeat (first | refine blk_drewN ?_ _ | refine blk_drew ?_ | refine blk_alloc ?_ _)); exact BK241.out⟩, ⟨by (try simp only [hl247001_109]); (try simp only [hl254003_109]); (with_reducible repeat (first | refine blk_drewN ?_ _ | refine blk_drew ?_ | refine blk_alloc ?_ _)); exact BK246.out⟩, ⟨by (try simp only [hl247001_109]); (try simp only [hl254003_109]); (with_reducible repeat (first | refine blk_drewN ?_ _ | refine blk_drew ?_ | refine blk_alloc ?_ _)); exact BK253.out⟩, ⟨by (try simp only [hl247001_109]); (try simp only [hl254003_109]); (with_reducible repeat (first | refine blk_drewN ?_ _ | refine blk_drew ?_ | refine blk_alloc ?_ _)); exact BK261.out⟩, ⟨by (try simp only [hl247001_109]); (try simp only [hl254003_109]); (with_reducible repeat (first | refine blk_drewN ?_ _ | refine blk_drew ?_ | refine blk_alloc ?_ _)); exact BK300.out⟩, ⟨bl HB.out⟩⟩
     case rest =>
      clear HC176
      try clear c1
      try clear c2
      try clear p2
      try clear c3
      try clear c17
      try clear c20
      try clear c21
      try clear c22
      try clear c32
      try clear c33
      try clear c34
      try clear c200
      try clear c201
      try clear c202
      try clear c203
      try clear c204
      try clear c205
      try clear c206
      try clear c208
      try clear c209
      try clear c210
      try clear c211
      try clear c212
      try clear c215
      try clear c216
      try clear c217
      try clear c218
      try clear c219
      try clear c220
      try clear c222
      try clear c223
      try clear c224
      try clear c225
      try clear c226
      try clear hcz207_0
      try clear hcz207_1
      try clear hcz207_2
      try clear hcz207_3
      try clear hcz213_0
      try clear hcz213_1
      try clear hcz213_2
      try clear hcz213_3
      try clear hcz221_0
      try clear hcz221_1
      try clear hcz221_2
      try clear hcz221_3
      try clear hcz227_0
      try clear hcz227_1
      try clear hcz227_2
      try clear hcz227_3
      try clear hfz207_0
      try clear hfz207_1
      try clear hfz207_2
      try clear hfz207_3
      try clear hfz213_0
      try clear hfz213_1
      try clear hfz213_2
      try clear hfz213_3
      try clear hfz221_0
      try clear hfz221_1
      try clear hfz221_2
      try clear hfz221_3
      try clear hfz227_0
      try clear hfz227_1
      try clear hfz227_2
      try clear hfz227_3
      obtain ⟨kq, x110_175, rfl, HA, HJ175, HO_242003, HO_247001, HO_254003, HO_262003, HO_301003, BK220, BK221, BK241, BK246, BK253, BK261, BK300, HB⟩ := hcut
      have hl262003_175 := (Kd.R_reads' HO_262003.out).1
      rw [hl262003_175] at HO_262003
      (try simp only [hl262003_175])
      (try simp only [hl262003_175] at BK220)
      (try simp only [hl262003_175] at BK221)
      (try simp only [hl262003_175] at BK241)
      (try simp only [hl262003_175] at BK246)
      (try simp only [hl262003_175] at BK253)
      (try simp only [hl262003_175] at BK261)
      (try simp only [hl262003_175] at BK300)
      (try simp only [hl262003_175] at HO_242003)
      (try simp only [hl262003_175] at HO_247001)
      (try simp only [hl262003_175] at HO_254003)
      (try simp only [hl262003_175] at HO_301003)
      cases kq with
      | zero => exact absurd HA.out (by simp [laws_FnExactInside.j2])
      | succ kj175 =>
       have H := HA.out
       clear HA
       simp only [laws_FnExactInside.j2] at H
       by_cases c229 : x110_175 = true
       case pos =>
        subst c229
        have H1 : (some false) = some true := by first | (rw [if_pos rfl] at H; exact H) | (rw [if_pos rfl] at H)
        clear H
        have H := H1
        clear H1
        exact absurd (Option.some.inj H) (by decide)
       replace c229 := Bool.eq_false_iff.mpr c229
       subst c229
       have H1 : ((laws_heldFrame.f kj175 t254 t255 t256 t281 1).bind fun t302 => (if t302 < 0 then (some false) else (if t302 = t280 then (some true) else (some false)))) = some true := by first | (rw [if_neg (show ¬ (false = true) by decide)] at H; exact H) | (rw [if_neg (show ¬ (false = true) by decide)] at H)
       clear H
       have H := H1
       clear H1
       replace H := Option.bind_eq_some_iff.mp H
       obtain ⟨t302, A2300, H⟩ := H
       replace H : (if t302 < 0 then (some false) else (if t302 = t280 then (some true) else (some false))) = some true := H
       have A230 := aM A2300
       clear A2300
       by_cases c231 : t302 < 0
       case pos =>
        rw [if_pos c231] at H
        have c231b0 : decide (t302 < 0) = true := decide_eq_true c231
        clear c231
        exact absurd (Option.some.inj H) (by decide)
       rw [if_neg c231] at H
       have c231b0 : decide (t302 < 0) = false := decide_eq_false c231
       clear c231
       by_cases c240 : t302 = t280
       case neg =>
        rw [if_neg c240] at H
        have c240b0 : (t302 == t280) = false := beq_eq_false_iff_ne.mpr c240
        have c240b1 : (t302 != t280) = true := bne_iff_ne.mpr c240
        exact absurd (Option.some.inj H) (by decide)
       rw [if_pos c240] at H
       have c240b0 : (t302 == t280) = true := beq_iff_eq.mpr c240
       have c240b1 : (t302 != t280) = false := bne_eq_false_iff_eq.mpr c240
       clear c240
       clear H
       have hnb241 := NB261_220.out
       have hnc241 := NB220_261.out
       have hnb242 := NB261_221.out
       have hnc242 := NB221_261.out
       have hnb243 := NB261_241.out
       have hnc243 := NB241_261.out
       have hnb244 := NB261_246.out
       have hnc244 := NB246_261.out
       have hnb245 := NB261_253.out
       have hnc245 := NB253_261.out
       have hnb246 := NB261_300.out
       have hnc246 := NB300_261.out
       have hcz247_0 := cI BK261.out 0
       have hcz247_1 := cI BK261.out 1
       have hcz247_2 := cI BK261.out 2
       have hcz247_3 := cI BK261.out 3
       have hfz247_0 := bF BK261.out 0
       have hfz247_1 := bF BK261.out 1
       have hfz247_2 := bF BK261.out 2
       have hfz247_3 := bF BK261.out 3
       go_wp2_with (first | ((with_reducible refine gate_callee (f := 38) rfl ?_); refine goesL_ (some 113) rfl rfl Try.func38 (by kernel_rfl) rfl #[.agg #[.int .i64 t254, .int .i64 t255, .int .i64 t256, .slice Ao74 t281.length co74], .int .i64 1] rfl xR ?_; (with_reducible refine (laws_heldFrame.calls kj175 t254 t255 t256 _ _ t281 1 t302 _ ?side1 ?side2 A230.out).mono ?_); (case side1 => repeat (first | exact (Kd.R_reads' HO_262003.out).2.2 | (with_reducible refine Kd.C_alloc ?_ _) | (with_reducible refine Kd.C_drewN ?_ _) | (with_reducible refine Kd.C_drew ?_))); (case side2 => exact (Kd.R_reads' HO_262003.out).2.1); rintro e w248 ⟨rfl, hb⟩; refine ⟨_, rfl, ?_⟩; have n0_ := aM (kB (kr HO_242003.out) hb); have n1_ := aM (kB (kr HO_247001.out) hb); have n2_ := aM (kB (kr HO_254003.out) hb); have n3_ := aM (kB (kr HO_262003.out) hb); have n4_ := aM (kB (kr HO_301003.out) hb); have n5_ := aM (bB (g := gb220) (o := .cells #[.int .i64 a0_0, .slice A0_1 l0_1.length c0_1] 44 (0, 0)) (bk BK220.out) hb); have n6_ := aM (bB (g := gb221) (o := .cells #[.int .i64 a1_0, .int .i64 a1_1, .int .i64 a1_2, .slice A1_3 l1_3.length c1_3] 45 (0, 0)) (bk BK221.out) hb); have n7_ := aM (bB (g := gb241) (o := .cells #[.int .i64 t234, .int .i64 t235, .int .i64 t236, .slice Ao44 t237.length co44] 28 (0, 0)) (bk BK241.out) hb); have n8_ := aM (bB (g := gb246) (o := .cells #[.int .i64 t242, .slice Ao54 t276.length co54] 26 (0, 0)) (bk BK246.out) hb); have n9_ := aM (bB (g := gb253) (o := .cells #[.int .i64 t247, .int .i64 t248, .int .i64 t249, .slice Ao64 t278.length co64] 28 (0, 0)) (bk BK253.out) hb); have n10_ := aM (bB (g := gb261) (o := .cells #[.int .i64 t254, .int .i64 t255, .int .i64 t256, .slice Ao74 t281.length co74] 28 (0, 0)) (bk BK261.out) hb); have n11_ := aM (bB (g := gb300) (o := .cells #[.int .i64 t293, .int .i64 t294, .int .i64 t295, .slice Ao197 t296.length co197] 28 (0, 0)) (bk BK300.out) hb); have n12_ := aM (bS (bl HB.out) hb); clear HO_242003 HO_247001; clear HO_254003 HO_262003; clear HO_301003 BK220; clear BK221 BK241; clear BK246 BK253; clear BK261 BK300 HB; have HO_242003 := n0_; have HO_247001 := n1_; have HO_254003 := n2_; have HO_262003 := n3_; have HO_301003 := n4_; have BK220 := n5_; have BK221 := n6_; have BK241 := n7_; have BK246 := n8_; have BK253 := n9_; have BK261 := n10_; have BK300 := n11_; have HB := n12_; clear n0_ n1_ n2_ n3_ n4_ n5_ n6_ n7_ n8_ n9_ n10_ n11_ n12_; (try clear hb)))
       go_ret
       exact ⟨xW, bl HB.out⟩

end Go.Proofs.Ytjmkbmpfknhcdaa.PFnExactInside
