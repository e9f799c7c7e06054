/- Of the proof of laws.FnExactDecide: a part. No condition beyond what its theorems say. -/
import Derived.Test.YthmijfekdeagpaaVFnExactDecideWTight
import Derived.Test.YthmijfekdeagpaaVFnExactDecidePx0
import Derived.Test.YthmijfekdeagpaaVFnExactDecidePx12
namespace Go.Proofs.Ythmijfekdeagpaa.PFnExactDecide
open Go.RowKit Go.Proofs.YthmijfekdeagpaaW.PrintWords Go.Proofs.YthmijfekdeagpaaW.PrintLast Go.Proofs.YthmijfekdeagpaaW.PrintMore
attribute [local go_sem] max2_int min2_int max_two min_two max_three min_three max_four min_four   -- for this text's walks alone
set_option linter.unusedVariables false
set_option linter.unusedSimpArgs false

def impl_Bridge_own.f (k : Nat) (a0_0 : Int) (l0_1 : List (S79)) (a1 : Int) : Option (Int × Int × Int × Int) := (impl_Bridge_rootPort.f k a0_0 l0_1).bind fun t337 => (if t337 ≥ 0 then (if 0 ≤ t337 then (if t337 < (l0_1.length : Int) then (some ((rd_T79 l0_1 t337).f2.f0, wrap64 (((rd_T79 l0_1 t337).f2.f1) + 1), a0_0, a1)) else (none)) else (none)) else (some (a0_0, 0, a0_0, a1)))
theorem impl_Bridge_own.mono : ∀ a0 a1 a2 k, LeO (impl_Bridge_own.f k a0 a1 a2) (impl_Bridge_own.f (k + 1) a0 a1 a2) := by
 intro a0 a1 a2 k
 unfold impl_Bridge_own.f
 repeat' first
   | (with_reducible exact impl_Bridge_rootPort.mono _ _ _)
   | (with_reducible exact LeO.refl _)
   | (with_reducible exact LeO.none _)
   | (with_reducible refine LeO.ite ?_ ?_)
   | (with_reducible refine LeO.bind ?_ (fun _ => ?_))
   | exact impl_Bridge_rootPort.mono _ _ _
   | exact LeO.none _
   | refine LeO.ite ?_ ?_
   | refine LeO.bind ?_ (fun _ => ?_)
def impl_Bridge_own.T1 : Bool × List (List Nat × List Nat) := (true, [([], []), ([0], [0]), ([1], [1]), ([2], [2]), ([], []), ([4], [4]), ([5], [5]), ([6], [6]), ([], []), ([3, 7, 8], [3, 7, 8]), ([], []), ([10, 9, 0, 1, 2, 3, 4, 5, 6, 7, 8, 9, 10], [9, 10])])
def impl_Bridge_own.B1 : List Nat := [0, 1, 3, 7, 0, 16, 48, 112, 0, 511, 0, 2047]
theorem impl_Bridge_own.tab1 : rtab .any (opsOf Try.f120 1) = impl_Bridge_own.T1 := by kernel_rfl
theorem impl_Bridge_own.bits1 : waitsOk impl_Bridge_own.T1.2 impl_Bridge_own.B1 = true := by kernel_rfl
def impl_Bridge_own.T4 : Bool × List (List Nat × List Nat) := (true, [([], []), ([0], [0]), ([1], [1]), ([2], [2]), ([], []), ([3, 4], [3, 4]), ([5], [5]), ([6], [6]), ([7], [7]), ([], []), ([9], [9]), ([10], [10]), ([11], [11]), ([], []), ([12, 13], [12, 13]), ([14], [14]), ([15], [15]), ([16], [16]), ([17], [17]), ([0, 1, 2, 3, 4, 5, 6, 7, 8], []), ([19, 8, 0, 1, 2, 3, 4, 5, 6, 7, 8], [8, 19]), ([0, 1, 2, 3, 4, 5, 6, 7, 8, 9, 10, 11, 12, 13, 14, 15, 16, 17, 18, 19, 20], []), ([21, 18, 20, 0, 1, 2, 3, 4, 5, 6, 7, 8, 9, 10, 11, 12, 13, 14, 15, 16, 17, 18, 19, 20], [18, 21])])
def impl_Bridge_own.B4 : List Nat := [0, 1, 3, 7, 0, 31, 63, 127, 255, 0, 512, 1536, 3584, 0, 15872, 32256, 65024, 130560, 261632, 511, 524799, 2097151, 4194303]
theorem impl_Bridge_own.tab4 : rtab .any (opsOf Try.f120 4) = impl_Bridge_own.T4 := by kernel_rfl
theorem impl_Bridge_own.bits4 : waitsOk impl_Bridge_own.T4.2 impl_Bridge_own.B4 = true := by kernel_rfl
set_option maxHeartbeats 60000000 in
set_option maxRecDepth 100000 in
theorem impl_Bridge_own.calls (k : Nat) (a0_0 : Int) (A0_1 : Option Addr) (c0_1 : Nat) (l0_1 : List (S79)) (a1 : Int) (r1 : Int) (r2 : Int) (r3 : Int) (r4 : Int) (w : World) (gb : Nat) (hBK : w.heap[gb]? = some (.cells #[.int .i64 a0_0, .slice A0_1 l0_1.length c0_1] 28 (0, 0))) (hr0_1 : Kd.C k79 w A0_1 l0_1.length l0_1) (hc0_1 : l0_1.length ≤ c0_1) (h : impl_Bridge_own.f k a0_0 l0_1 a1 = some (r1, r2, r3, r4)) :
  Calls Try.prog 120 #[.pointer (some ⟨gb, 0, none⟩), .int .i64 a1] w fun e w' => e = .returned (.agg #[.int .i64 r1, .int .i64 r2, .int .i64 r3, .int .i64 r4]) ∧ Below w.heap.size w w' := by
 have hu28 := Try.underlying28
 have hu73 := Try.underlying73
 have HR0_1 := aM hr0_1
 have HC0_1 := aM hc0_1
 clear hr0_1 hc0_1
 have HB := aM (Below.refl w.heap.size w)
 have H : ((impl_Bridge_rootPort.f k a0_0 l0_1).bind fun t337 => (if t337 ≥ 0 then (if 0 ≤ t337 then (if t337 < (l0_1.length : Int) then (some ((rd_T79 l0_1 t337).f2.f0, wrap64 (((rd_T79 l0_1 t337).f2.f1) + 1), a0_0, a1)) else (none)) else (none)) else (some (a0_0, 0, a0_0, a1)))) = some (r1, r2, r3, r4) := h
 clear h
 replace H := Option.bind_eq_some_iff.mp H
 obtain ⟨t337, A30, H⟩ := H
 replace H : (if t337 ≥ 0 then (if 0 ≤ t337 then (if t337 < (l0_1.length : Int) then (some ((rd_T79 l0_1 t337).f2.f0, wrap64 (((rd_T79 l0_1 t337).f2.f1) + 1), a0_0, a1)) else (none)) else (none)) else (some (a0_0, 0, a0_0, a1))) = some (r1, r2, r3, r4) := H
 have A3 := aM A30
 clear A30
 by_cases c4 : t337 ≥ 0
 case neg =>
  rw [if_neg c4] at H
  have c4b0 : decide (0 ≤ t337) = false := decide_eq_false c4
  clear c4
  simp only [Option.some.injEq, Prod.mk.injEq] at H
  obtain ⟨rfl, rfl, rfl, rfl⟩ := H
  go_enter Try.func120, Try.ntmps120
  have BK334 := aM hBK
  clear hBK
  try go_wp2_with (first | ((with_reducible refine gD (N := 4) rfl ?_); refine bE (N := 4) (cs := #[.int .i64 0, .int .i64 0, .int .i64 0, .int .i64 0]) (t := 73) ?_; intro gb335 hg w25 hbox hb; have BK335 := aM (hbox); have GW335 := gE hg (below_size (bl HB.out)); have GE335 := gE hg (below_size (bl HB.out)); have NB334_335 := nL hg (blk_lt (bk BK334.out)); have NB335_334 := nG hg (blk_lt (bk BK334.out)); replace BK334 := aM (bB (bk BK334.out) hb); replace HB := aM (bS (bl HB.out) hb); clear hb hbox hg))
  replace BK334 := aM (blk_drew BK334.out)
  replace BK335 := aM (blk_drew BK335.out)
  replace HB := aM (below_drew1 HB.out)
  refine start_ (n := 12) (S := fun w' => cS2 w' gb (.int .i64 a0_0) (.slice A0_1 l0_1.length c0_1)) (ds := []) (dn 12 0) (by kernel_rfl) rfl rfl ⟨cI BK334.out 0, cI BK334.out 1⟩ (fun hHeld => ?_); refine with_tabW impl_Bridge_own.tab1 impl_Bridge_own.bits1 (fun HT_ HW_ => ?_)
  generalize w25.drew = w26 at BK334 BK335 HB hHeld ⊢
  refine nY (N := some 7) HT_ ?_
  refine nY (N := some 8) HT_ ?_
  refine nY (N := some 9) HT_ ?_
  refine pY (i := 4) (N := some 11) #[Y,Y,Y,U,Y,U,U,U,U,U,U,U] HT_ ?_
  refine pY (i := 5) (N := some 12) #[Y,Y,Y,U,Y,Y,U,U,U,U,U,U] HT_ ?_
  refine pY (i := 6) (N := some 13) #[Y,Y,Y,U,Y,Y,Y,U,U,U,U,U] HT_ ?_
  refine pY (i := 8) (N := some 15) #[Y,Y,Y,U,Y,Y,Y,U,Y,U,U,U] HT_ ?_
  refine aY (i := 3) (N := some 10) #[Y,Y,Y,Y,Y,Y,Y,U,Y,U,U,U] HT_ HW_ hHeld ?_
  refine aY (i := 7) (N := some 14) #[Y,Y,Y,Y,Y,Y,Y,Y,Y,U,U,U] HT_ HW_ hHeld ?_
  refine pY (i := 9) (N := some 16) #[Y,Y,Y,Y,Y,Y,Y,Y,Y,Y,U,U] HT_ ?_
  refine one_ (i := 10) (N := some 5) #[Y,Y,Y,Y,Y,Y,Y,Y,Y,Y,Y,U] rfl rfl (one_of HT_.out (by kernel_rfl)) (by decide) (fun K hK => ?_)
  refine box_step ?hg (N := 5) ?hd (cs := #[.int .i64 0, .int .i64 0, .int .i64 0, .int .i64 0]) (t := 73) ?hr ?_; (case hd => rfl); (case hg => rfl); (case hr => first | (go_simp; done) | (go_simp; rfl))
  intro gb336 hg w27 hbox hb
  have BK336 := aM (hbox)
  have GW336 := gE hg (below_size (bl HB.out))
  have GE336 := gE hg (below_size (bl HB.out))
  have NB334_336 := nL hg (blk_lt (bk BK334.out))
  have NB336_334 := nG hg (blk_lt (bk BK334.out))
  have NB335_336 := nL hg (blk_lt (bk BK335.out))
  have NB336_335 := nG hg (blk_lt (bk BK335.out))
  replace BK334 := aM (bB (bk BK334.out) hb)
  replace BK335 := aM (bB (bk BK335.out) hb)
  replace HB := aM (bS (bl HB.out) hb)
  clear hb hbox hg
  refine hK.out _ _ ⟨cI BK334.out 0, cI BK334.out 1⟩ (fun hHeld => ?_)
  clear hK K
  refine norm_ (a' := ?_) ?_ ?_
  rotate_left
  ·show Act.put _ (some 5) _ = _
   simp only [Act.put, sA, sZ, sS, i64_w, i32_w]
   rfl
  refine one_ (i := 11) (N := none) #[Y,Y,Y,Y,Y,Y,Y,Y,Y,Y,Y,Y] rfl rfl (one_of HT_.out (by kernel_rfl)) (by decide) (fun K hK => ?_)
  have hs28 := cI BK336.out 0
  have hfs28 := bF BK336.out 0
  have hns28_0 := NB334_336.out
  have hns28_1 := NB335_336.out
  have hms28_0 := NB336_334.out
  have hms28_1 := NB336_335.out
  have hs29 := cI BK336.out 1
  have hfs29 := bF BK336.out 1
  have hns29_0 := NB334_336.out
  have hns29_1 := NB335_336.out
  have hms29_0 := NB336_334.out
  have hms29_1 := NB336_335.out
  have hs30 := cI BK336.out 2
  have hfs30 := bF BK336.out 2
  have hns30_0 := NB334_336.out
  have hns30_1 := NB335_336.out
  have hms30_0 := NB336_334.out
  have hms30_1 := NB336_335.out
  have hs31 := cI BK336.out 3
  have hfs31 := bF BK336.out 3
  have hns31_0 := NB334_336.out
  have hns31_1 := NB335_336.out
  have hms31_0 := NB336_334.out
  have hms31_1 := NB336_335.out
  refine skip_ (w1 := ?_) (by rfl) rfl ?_ ?_
  rotate_left
  ·go_simp
   rfl
  refine hK.out _ _ ⟨(cm (hHeld.1)), (cm (hHeld.2))⟩ (fun hHeld => ?_)
  clear hK K
  refine done_ (done_of HT_.out (by kernel_rfl)) ?_
  try go_wp2_with (first | ((with_reducible refine gC (f := 118) rfl ?_); refine gL (some 18) Try.func118 #[.pointer (some ⟨gb, 0, none⟩)] ?_; (with_reducible refine (impl_Bridge_rootPort.calls (gb := gb) (hBK := (fm BK334.out)) k a0_0 _ _ l0_1 t337 _ ?side1 ?side2 A3.out).mono ?_); (case side1 => exact cB HR0_1.out (bl HB.out)); (case side2 => exact HC0_1.out); rintro e w32 ⟨rfl, hb⟩; refine ⟨_, rfl, ?_⟩; replace BK334 := aM (bB (fm BK334.out) hb); replace BK335 := aM (bB (fm BK335.out) hb); replace BK336 := aM (bB (pA4 (fm BK336.out)) hb); replace HB := aM (bS (bl HB.out) hb); (try clear hb); have hnb33 := NB336_334.out; have hnc33 := NB334_336.out; have hnb34 := NB336_335.out; have hnc34 := NB335_336.out; have hcz35 := cA4 BK336.out; have hnb36 := NB335_334.out; have hnc36 := NB334_335.out; have hcz37 := cA4 BK335.out))
  refine bodyPost_ret (results_cell_row rfl _ _ gb335 73 #[.int .i64 a0_0, .int .i64 0, .int .i64 a0_0, .int .i64 a1] (0, 0) _ rfl (pA4 (fm BK335.out)) Try.underlying73 rfl (by kernel_rfl)) rfl ?_
  exact ⟨xW, bl HB.out⟩
 rw [if_pos c4] at H
 have c4b0 : decide (0 ≤ t337) = true := decide_eq_true c4
 clear c4
 by_cases c5 : 0 ≤ t337
 case neg =>
  rw [if_neg c5] at H
  exact absurd H (by simp)
 rw [if_pos c5] at H
 have c5b0 : decide (0 ≤ t337) = true := decide_eq_true c5
 clear c5
 by_cases c6 : t337 < (l0_1.length : Int)
 case neg =>
  rw [if_neg c6] at H
  exact absurd H (by simp)
 rw [if_pos c6] at H
 have c6b0 : decide (t337 < (l0_1.length : Int)) = true := decide_eq_true c6
 clear c6
 simp only [Option.some.injEq, Prod.mk.injEq] at H
 obtain ⟨rfl, rfl, rfl, rfl⟩ := H
 go_enter Try.func120, Try.ntmps120
 have BK334 := aM hBK
 clear hBK
 try go_wp2_with (first | ((with_reducible refine gD (N := 4) rfl ?_); refine bE (N := 4) (cs := #[.int .i64 0, .int .i64 0, .int .i64 0, .int .i64 0]) (t := 73) ?_; intro gb335 hg w8 hbox hb; have BK335 := aM (hbox); have GW335 := gE hg (below_size (bl HB.out)); have GE335 := gE hg (below_size (bl HB.out)); have NB334_335 := nL hg (blk_lt (bk BK334.out)); have NB335_334 := nG hg (blk_lt (bk BK334.out)); replace BK334 := aM (bB (bk BK334.out) hb); replace HB := aM (bS (bl HB.out) hb); clear hb hbox hg))
 replace BK334 := aM (blk_drew BK334.out)
 replace BK335 := aM (blk_drew BK335.out)
 replace HB := aM (below_drew1 HB.out)
 refine start_ (n := 12) (S := fun w' => cS2 w' gb (.int .i64 a0_0) (.slice A0_1 l0_1.length c0_1)) (ds := []) (dn 12 0) (by kernel_rfl) rfl rfl ⟨cI BK334.out 0, cI BK334.out 1⟩ (fun hHeld => ?_); refine with_tabW impl_Bridge_own.tab1 impl_Bridge_own.bits1 (fun HT_ HW_ => ?_)
 generalize w8.drew = w9 at BK334 BK335 HB hHeld ⊢
 refine nY (N := some 7) HT_ ?_
 refine nY (N := some 8) HT_ ?_
 refine nY (N := some 9) HT_ ?_
 refine pY (i := 4) (N := some 11) #[Y,Y,Y,U,Y,U,U,U,U,U,U,U] HT_ ?_
 refine pY (i := 5) (N := some 12) #[Y,Y,Y,U,Y,Y,U,U,U,U,U,U] HT_ ?_
 refine pY (i := 6) (N := some 13) #[Y,Y,Y,U,Y,Y,Y,U,U,U,U,U] HT_ ?_
 refine pY (i := 8) (N := some 15) #[Y,Y,Y,U,Y,Y,Y,U,Y,U,U,U] HT_ ?_
 refine aY (i := 3) (N := some 10) #[Y,Y,Y,Y,Y,Y,Y,U,Y,U,U,U] HT_ HW_ hHeld ?_
 refine aY (i := 7) (N := some 14) #[Y,Y,Y,Y,Y,Y,Y,Y,Y,U,U,U] HT_ HW_ hHeld ?_
 refine pY (i := 9) (N := some 16) #[Y,Y,Y,Y,Y,Y,Y,Y,Y,Y,U,U] HT_ ?_
 refine one_ (i := 10) (N := some 5) #[Y,Y,Y,Y,Y,Y,Y,Y,Y,Y,Y,U] rfl rfl (one_of HT_.out (by kernel_rfl)) (by decide) (fun K hK => ?_)
 refine box_step ?hg (N := 5) ?hd (cs := #[.int .i64 0, .int .i64 0, .int .i64 0, .int .i64 0]) (t := 73) ?hr ?_; (case hd => rfl); (case hg => rfl); (case hr => first | (go_simp; done) | (go_simp; rfl))
 intro gb336 hg w10 hbox hb
 have BK336 := aM (hbox)
 have GW336 := gE hg (below_size (bl HB.out))
 have GE336 := gE hg (below_size (bl HB.out))
 have NB334_336 := nL hg (blk_lt (bk BK334.out))
 have NB336_334 := nG hg (blk_lt (bk BK334.out))
 have NB335_336 := nL hg (blk_lt (bk BK335.out))
 have NB336_335 := nG hg (blk_lt (bk BK335.out))
 replace BK334 := aM (bB (bk BK334.out) hb)
 replace BK335 := aM (bB (bk BK335.out) hb)
 replace HB := aM (bS (bl HB.out) hb)
 clear hb hbox hg
 refine hK.out _ _ ⟨cI BK334.out 0, cI BK334.out 1⟩ (fun hHeld => ?_)
 clear hK K
 refine norm_ (a' := ?_) ?_ ?_
 rotate_left
 ·show Act.put _ (some 5) _ = _
  simp only [Act.put, sA, sZ, sS, i64_w, i32_w]
  rfl
 refine one_ (i := 11) (N := none) #[Y,Y,Y,Y,Y,Y,Y,Y,Y,Y,Y,Y] rfl rfl (one_of HT_.out (by kernel_rfl)) (by decide) (fun K hK => ?_)
 have hs11 := cI BK336.out 0
 have hfs11 := bF BK336.out 0
 have hns11_0 := NB334_336.out
 have hns11_1 := NB335_336.out
 have hms11_0 := NB336_334.out
 have hms11_1 := NB336_335.out
 have hs12 := cI BK336.out 1
 have hfs12 := bF BK336.out 1
 have hns12_0 := NB334_336.out
 have hns12_1 := NB335_336.out
 have hms12_0 := NB336_334.out
 have hms12_1 := NB336_335.out
 have hs13 := cI BK336.out 2
 have hfs13 := bF BK336.out 2
 have hns13_0 := NB334_336.out
 have hns13_1 := NB335_336.out
 have hms13_0 := NB336_334.out
 have hms13_1 := NB336_335.out
 have hs14 := cI BK336.out 3
 have hfs14 := bF BK336.out 3
 have hns14_0 := NB334_336.out
 have hns14_1 := NB335_336.out
 have hms14_0 := NB336_334.out
 have hms14_1 := NB336_335.out
 refine skip_ (w1 := ?_) (by rfl) rfl ?_ ?_
 rotate_left
 ·go_simp
  rfl
 refine hK.out _ _ ⟨(cm (hHeld.1)), (cm (hHeld.2))⟩ (fun hHeld => ?_)
 clear hK K
 refine done_ (done_of HT_.out (by kernel_rfl)) ?_
 try go_wp2_with (first | ((with_reducible refine gC (f := 118) rfl ?_); refine gL (some 18) Try.func118 #[.pointer (some ⟨gb, 0, none⟩)] ?_; (with_reducible refine (impl_Bridge_rootPort.calls (gb := gb) (hBK := (fm BK334.out)) k a0_0 _ _ l0_1 t337 _ ?side1 ?side2 A3.out).mono ?_); (case side1 => exact cB HR0_1.out (bl HB.out)); (case side2 => exact HC0_1.out); rintro e w15 ⟨rfl, hb⟩; refine ⟨_, rfl, ?_⟩; replace BK334 := aM (bB (fm BK334.out) hb); replace BK335 := aM (bB (fm BK335.out) hb); replace BK336 := aM (bB (pA4 (fm BK336.out)) hb); replace HB := aM (bS (bl HB.out) hb); (try clear hb); have hcw_gb335_0 := cI BK335.out 0; have hfw_gb335_0 := bF BK335.out 0; have hcw_gb335_1 := cI BK335.out 1; have hfw_gb335_1 := bF BK335.out 1; have hcw_gb335_2 := cI BK335.out 2; have hfw_gb335_2 := bF BK335.out 2; have hcw_gb335_3 := cI BK335.out 3; have hfw_gb335_3 := bF BK335.out 3; have hcw_gb336_0 := cI BK336.out 0; have hfw_gb336_0 := bF BK336.out 0; have hcw_gb336_1 := cI BK336.out 1; have hfw_gb336_1 := bF BK336.out 1; have hcw_gb336_2 := cI BK336.out 2; have hfw_gb336_2 := bF BK336.out 2; have hcw_gb336_3 := cI BK336.out 3; have hfw_gb336_3 := bF BK336.out 3))
 replace BK334 := aM (blk_drew BK334.out)
 replace BK335 := aM (blk_drew BK335.out)
 replace BK336 := aM (blk_drew BK336.out)
 replace HB := aM (below_drew1 HB.out)
 have p338 : 0 ≤ (t337 : Int) := of_decide_eq_true (by first | (with_reducible assumption) | assumption)
 have q338 : t337 < (l0_1.length : Int) := of_decide_eq_true (by first | (with_reducible assumption) | assumption)
 obtain ⟨ad338, e338, hx338_0, hx338_1, hx338_2, hx338_3, hx338_4, hx338_5, hx338_6, hx338_7, hx338_8, hx338_9, hx338_10⟩ := at_T79 HR0_1.out t337 p338 q338
 have hw338_10 := hx338_10
 have hw338_9 := hx338_9
 have hw338_8 := hx338_8
 have hw338_7 := hx338_7
 have hw338_6 := hx338_6
 have hw338_5 := hx338_5
 have hw338_4 := hx338_4
 have hw338_3 := hx338_3
 have hw338_2 := hx338_2
 have hw338_1 := hx338_1
 have hw338_0 := hx338_0
 cases e338
 replace hx338_0 := xB HB hx338_0
 replace hx338_1 := xB HB hx338_1
 replace hx338_2 := xB HB hx338_2
 replace hx338_3 := xB HB hx338_3
 replace hx338_4 := xB HB hx338_4
 replace hx338_5 := xB HB hx338_5
 replace hx338_6 := xB HB hx338_6
 replace hx338_7 := xB HB hx338_7
 replace hx338_8 := xB HB hx338_8
 replace hx338_9 := xB HB hx338_9
 replace hx338_10 := xB HB hx338_10
 replace p338 := eq_true p338
 replace q338 := eq_true q338
 have p339 : 0 ≤ (t337 : Int) := of_decide_eq_true (by first | (with_reducible assumption) | assumption)
 have q339 : t337 < (l0_1.length : Int) := of_decide_eq_true (by first | (with_reducible assumption) | assumption)
 obtain ⟨ad339, e339, hx339_0, hx339_1, hx339_2, hx339_3, hx339_4, hx339_5, hx339_6, hx339_7, hx339_8, hx339_9, hx339_10⟩ := at_T79 HR0_1.out t337 p339 q339
 have hw339_10 := hx339_10
 have hw339_9 := hx339_9
 have hw339_8 := hx339_8
 have hw339_7 := hx339_7
 have hw339_6 := hx339_6
 have hw339_5 := hx339_5
 have hw339_4 := hx339_4
 have hw339_3 := hx339_3
 have hw339_2 := hx339_2
 have hw339_1 := hx339_1
 have hw339_0 := hx339_0
 obtain rfl : ad338 = ad339 := (by injection e339)
 replace hx339_0 := xB HB hx339_0
 replace hx339_1 := xB HB hx339_1
 replace hx339_2 := xB HB hx339_2
 replace hx339_3 := xB HB hx339_3
 replace hx339_4 := xB HB hx339_4
 replace hx339_5 := xB HB hx339_5
 replace hx339_6 := xB HB hx339_6
 replace hx339_7 := xB HB hx339_7
 replace hx339_8 := xB HB hx339_8
 replace hx339_9 := xB HB hx339_9
 replace hx339_10 := xB HB hx339_10
 replace p339 := eq_true p339
 replace q339 := eq_true q339
 refine start_ (n := 23) (S := fun w' => cT2 w' gb (.int .i64 a0_0) (.slice (some ad338) l0_1.length c0_1) (w'.cell? (ad338.add ((t337).toNat * 11)) = some (.bool ((rd_T79 l0_1 t337).f0)) ∧ w'.cell? ⟨(ad338.add ((t337).toNat * 11)).block, (ad338.add ((t337).toNat * 11)).off + 1, none⟩ = some (.bool ((rd_T79 l0_1 t337).f1)) ∧ w'.cell? ⟨(ad338.add ((t337).toNat * 11)).block, (ad338.add ((t337).toNat * 11)).off + 2, none⟩ = some (.int .i64 ((rd_T79 l0_1 t337).f2.f0)) ∧ w'.cell? ⟨(ad338.add ((t337).toNat * 11)).block, (ad338.add ((t337).toNat * 11)).off + 3, none⟩ = some (.int .i64 ((rd_T79 l0_1 t337).f2.f1)) ∧ w'.cell? ⟨(ad338.add ((t337).toNat * 11)).block, (ad338.add ((t337).toNat * 11)).off + 4, none⟩ = some (.int .i64 ((rd_T79 l0_1 t337).f2.f2)) ∧ w'.cell? ⟨(ad338.add ((t337).toNat * 11)).block, (ad338.add ((t337).toNat * 11)).off + 5, none⟩ = some (.int .i64 ((rd_T79 l0_1 t337).f2.f3)) ∧ w'.cell? ⟨(ad338.add ((t337).toNat * 11)).block, (ad338.add ((t337).toNat * 11)).off + 6, none⟩ = some (.int .i64 ((rd_T79 l0_1 t337).f3)) ∧ w'.cell? ⟨(ad338.add ((t337).toNat * 11)).block, (ad338.add ((t337).toNat * 11)).off + 7, none⟩ = some (.int .i64 ((rd_T79 l0_1 t337).f4)) ∧ w'.cell? ⟨(ad338.add ((t337).toNat * 11)).block, (ad338.add ((t337).toNat * 11)).off + 8, none⟩ = some (.int .i64 ((rd_T79 l0_1 t337).f5)) ∧ w'.cell? ⟨(ad338.add ((t337).toNat * 11)).block, (ad338.add ((t337).toNat * 11)).off + 9, none⟩ = some (.int .i64 ((rd_T79 l0_1 t337).f6)) ∧ w'.cell? ⟨(ad338.add ((t337).toNat * 11)).block, (ad338.add ((t337).toNat * 11)).off + 10, none⟩ = some (.bool ((rd_T79 l0_1 t337).f7)) ∧ w'.cell? (ad338.add ((t337).toNat * 11)) = some (.bool ((rd_T79 l0_1 t337).f0)) ∧ w'.cell? ⟨(ad338.add ((t337).toNat * 11)).block, (ad338.add ((t337).toNat * 11)).off + 1, none⟩ = some (.bool ((rd_T79 l0_1 t337).f1)) ∧ w'.cell? ⟨(ad338.add ((t337).toNat * 11)).block, (ad338.add ((t337).toNat * 11)).off + 2, none⟩ = some (.int .i64 ((rd_T79 l0_1 t337).f2.f0)) ∧ w'.cell? ⟨(ad338.add ((t337).toNat * 11)).block, (ad338.add ((t337).toNat * 11)).off + 3, none⟩ = some (.int .i64 ((rd_T79 l0_1 t337).f2.f1)) ∧ w'.cell? ⟨(ad338.add ((t337).toNat * 11)).block, (ad338.add ((t337).toNat * 11)).off + 4, none⟩ = some (.int .i64 ((rd_T79 l0_1 t337).f2.f2)) ∧ w'.cell? ⟨(ad338.add ((t337).toNat * 11)).block, (ad338.add ((t337).toNat * 11)).off + 5, none⟩ = some (.int .i64 ((rd_T79 l0_1 t337).f2.f3)) ∧ w'.cell? ⟨(ad338.add ((t337).toNat * 11)).block, (ad338.add ((t337).toNat * 11)).off + 6, none⟩ = some (.int .i64 ((rd_T79 l0_1 t337).f3)) ∧ w'.cell? ⟨(ad338.add ((t337).toNat * 11)).block, (ad338.add ((t337).toNat * 11)).off + 7, none⟩ = some (.int .i64 ((rd_T79 l0_1 t337).f4)) ∧ w'.cell? ⟨(ad338.add ((t337).toNat * 11)).block, (ad338.add ((t337).toNat * 11)).off + 8, none⟩ = some (.int .i64 ((rd_T79 l0_1 t337).f5)) ∧ w'.cell? ⟨(ad338.add ((t337).toNat * 11)).block, (ad338.add ((t337).toNat * 11)).off + 9, none⟩ = some (.int .i64 ((rd_T79 l0_1 t337).f6)) ∧ w'.cell? ⟨(ad338.add ((t337).toNat * 11)).block, (ad338.add ((t337).toNat * 11)).off + 10, none⟩ = some (.bool ((rd_T79 l0_1 t337).f7)))) (ds := []) (dn 23 0) (by kernel_rfl) rfl rfl ⟨cI BK334.out 0, cI BK334.out 1, ((HB.out.cell (World.block_lt_of_cell? w _ hw338_0)).trans hw338_0), ((HB.out.cell (World.block_lt_of_cell? w _ hw338_1)).trans hw338_1), ((HB.out.cell (World.block_lt_of_cell? w _ hw338_2)).trans hw338_2), ((HB.out.cell (World.block_lt_of_cell? w _ hw338_3)).trans hw338_3), ((HB.out.cell (World.block_lt_of_cell? w _ hw338_4)).trans hw338_4), ((HB.out.cell (World.block_lt_of_cell? w _ hw338_5)).trans hw338_5), ((HB.out.cell (World.block_lt_of_cell? w _ hw338_6)).trans hw338_6), ((HB.out.cell (World.block_lt_of_cell? w _ hw338_7)).trans hw338_7), ((HB.out.cell (World.block_lt_of_cell? w _ hw338_8)).trans hw338_8), ((HB.out.cell (World.block_lt_of_cell? w _ hw338_9)).trans hw338_9), ((HB.out.cell (World.block_lt_of_cell? w _ hw338_10)).trans hw338_10), ((HB.out.cell (World.block_lt_of_cell? w _ hw339_0)).trans hw339_0), ((HB.out.cell (World.block_lt_of_cell? w _ hw339_1)).trans hw339_1), ((HB.out.cell (World.block_lt_of_cell? w _ hw339_2)).trans hw339_2), ((HB.out.cell (World.block_lt_of_cell? w _ hw339_3)).trans hw339_3), ((HB.out.cell (World.block_lt_of_cell? w _ hw339_4)).trans hw339_4), ((HB.out.cell (World.block_lt_of_cell? w _ hw339_5)).trans hw339_5), ((HB.out.cell (World.block_lt_of_cell? w _ hw339_6)).trans hw339_6), ((HB.out.cell (World.block_lt_of_cell? w _ hw339_7)).trans hw339_7), ((HB.out.cell (World.block_lt_of_cell? w _ hw339_8)).trans hw339_8), ((HB.out.cell (World.block_lt_of_cell? w _ hw339_9)).trans hw339_9), ((HB.out.cell (World.block_lt_of_cell? w _ hw339_10)).trans hw339_10)⟩ (fun hHeld => ?_); refine with_tabW impl_Bridge_own.tab4 impl_Bridge_own.bits4 (fun HT_ HW_ => ?_)
 generalize w15.drew = w16 at BK334 BK335 BK336 HB hx338_0 hx338_1 hx338_10 hx338_2 hx338_3 hx338_4 hx338_5 hx338_6 hx338_7 hx338_8 hx338_9 hx339_0 hx339_1 hx339_10 hx339_2 hx339_3 hx339_4 hx339_5 hx339_6 hx339_7 hx339_8 hx339_9 hHeld ⊢
 refine nY (N := some 21) HT_ ?_
 refine nY (N := some 22) HT_ ?_
 refine nY (N := some 23) HT_ ?_
 refine pY (i := 4) (N := some 25) #[Y,Y,Y,U,Y,U,U,U,U,U,U,U,U,U,U,U,U,U,U,U,U,U,U] HT_ ?_
 refine pY (i := 9) (N := some 30) #[Y,Y,Y,U,Y,U,U,U,U,Y,U,U,U,U,U,U,U,U,U,U,U,U,U] HT_ ?_
 refine pY (i := 10) (N := some 31) #[Y,Y,Y,U,Y,U,U,U,U,Y,Y,U,U,U,U,U,U,U,U,U,U,U,U] HT_ ?_
 refine pY (i := 11) (N := some 32) #[Y,Y,Y,U,Y,U,U,U,U,Y,Y,Y,U,U,U,U,U,U,U,U,U,U,U] HT_ ?_
 refine pY (i := 13) (N := some 34) #[Y,Y,Y,U,Y,U,U,U,U,Y,Y,Y,U,Y,U,U,U,U,U,U,U,U,U] HT_ ?_
 refine aY (i := 3) (N := some 24) #[Y,Y,Y,Y,Y,U,U,U,U,Y,Y,Y,U,Y,U,U,U,U,U,U,U,U,U] HT_ HW_ hHeld ?_
 refine pY (i := 5) (N := some 26) #[Y,Y,Y,Y,Y,Y,U,U,U,Y,Y,Y,U,Y,U,U,U,U,U,U,U,U,U] HT_ ?_
 refine pY (i := 6) (N := some 27) #[Y,Y,Y,Y,Y,Y,Y,U,U,Y,Y,Y,U,Y,U,U,U,U,U,U,U,U,U] HT_ ?_
 refine pY (i := 7) (N := some 28) #[Y,Y,Y,Y,Y,Y,Y,Y,U,Y,Y,Y,U,Y,U,U,U,U,U,U,U,U,U] HT_ ?_
 refine aY (i := 8) (N := some 29) #[Y,Y,Y,Y,Y,Y,Y,Y,Y,Y,Y,Y,U,Y,U,U,U,U,U,U,U,U,U] HT_ HW_ hHeld ?_
 refine pY (i := 19) (N := some 40) #[Y,Y,Y,Y,Y,Y,Y,Y,Y,Y,Y,Y,U,Y,U,U,U,U,U,Y,U,U,U] HT_ ?_
 refine aY (i := 12) (N := some 33) #[Y,Y,Y,Y,Y,Y,Y,Y,Y,Y,Y,Y,Y,Y,U,U,U,U,U,Y,U,U,U] HT_ HW_ hHeld ?_
 refine pY (i := 14) (N := some 35) #[Y,Y,Y,Y,Y,Y,Y,Y,Y,Y,Y,Y,Y,Y,Y,U,U,U,U,Y,U,U,U] HT_ ?_
 refine pY (i := 15) (N := some 36) #[Y,Y,Y,Y,Y,Y,Y,Y,Y,Y,Y,Y,Y,Y,Y,Y,U,U,U,Y,U,U,U] HT_ ?_
 refine pY (i := 16) (N := some 37) #[Y,Y,Y,Y,Y,Y,Y,Y,Y,Y,Y,Y,Y,Y,Y,Y,Y,U,U,Y,U,U,U] HT_ ?_
 refine aY (i := 17) (N := some 38) #[Y,Y,Y,Y,Y,Y,Y,Y,Y,Y,Y,Y,Y,Y,Y,Y,Y,Y,U,Y,U,U,U] HT_ HW_ hHeld ?_
 refine pY (i := 18) (N := some 39) #[Y,Y,Y,Y,Y,Y,Y,Y,Y,Y,Y,Y,Y,Y,Y,Y,Y,Y,Y,Y,U,U,U] HT_ ?_
 refine one_ (i := 20) (N := none) #[Y,Y,Y,Y,Y,Y,Y,Y,Y,Y,Y,Y,Y,Y,Y,Y,Y,Y,Y,Y,Y,U,U] rfl rfl (one_of HT_.out (by kernel_rfl)) (by decide) (fun K hK => ?_)
 have hs17 := cI BK336.out 0
 have hfs17 := bF BK336.out 0
 have hns17_0 := NB334_336.out
 have hns17_1 := NB335_336.out
 have hms17_0 := NB336_334.out
 have hms17_1 := NB336_335.out
 refine skip_ (w1 := ?_) (by rfl) rfl ?_ ?_
 rotate_left
 ·go_simp
  rfl
 refine hK.out _ _ ⟨(cm (hHeld.1)), (cm (hHeld.2.1)), ((cF hw338_0 GW336.out).trans (hHeld.2.2.1)), ((cF hw338_1 GW336.out).trans (hHeld.2.2.2.1)), ((cF hw338_2 GW336.out).trans (hHeld.2.2.2.2.1)), ((cF hw338_3 GW336.out).trans (hHeld.2.2.2.2.2.1)), ((cF hw338_4 GW336.out).trans (hHeld.2.2.2.2.2.2.1)), ((cF hw338_5 GW336.out).trans (hHeld.2.2.2.2.2.2.2.1)), ((cF hw338_6 GW336.out).trans (hHeld.2.2.2.2.2.2.2.2.1)), ((cF hw338_7 GW336.out).trans (hHeld.2.2.2.2.2.2.2.2.2.1)), ((cF hw338_8 GW336.out).trans (hHeld.2.2.2.2.2.2.2.2.2.2.1)), ((cF hw338_9 GW336.out).trans (hHeld.2.2.2.2.2.2.2.2.2.2.2.1)), ((cF hw338_10 GW336.out).trans (hHeld.2.2.2.2.2.2.2.2.2.2.2.2.1)), ((cF hw339_0 GW336.out).trans (hHeld.2.2.2.2.2.2.2.2.2.2.2.2.2.1)), ((cF hw339_1 GW336.out).trans (hHeld.2.2.2.2.2.2.2.2.2.2.2.2.2.2.1)), ((cF hw339_2 GW336.out).trans (hHeld.2.2.2.2.2.2.2.2.2.2.2.2.2.2.2.1)), ((cF hw339_3 GW336.out).trans (hHeld.2.2.2.2.2.2.2.2.2.2.2.2.2.2.2.2.1)), ((cF hw339_4 GW336.out).trans (hHeld.2.2.2.2.2.2.2.2.2.2.2.2.2.2.2.2.2.1)), ((cF hw339_5 GW336.out).trans (hHeld.2.2.2.2.2.2.2.2.2.2.2.2.2.2.2.2.2.2.1)), ((cF hw339_6 GW336.out).trans (hHeld.2.2.2.2.2.2.2.2.2.2.2.2.2.2.2.2.2.2.2.1)), ((cF hw339_7 GW336.out).trans (hHeld.2.2.2.2.2.2.2.2.2.2.2.2.2.2.2.2.2.2.2.2.1)), ((cF hw339_8 GW336.out).trans (hHeld.2.2.2.2.2.2.2.2.2.2.2.2.2.2.2.2.2.2.2.2.2.1)), ((cF hw339_9 GW336.out).trans (hHeld.2.2.2.2.2.2.2.2.2.2.2.2.2.2.2.2.2.2.2.2.2.2.1)), ((cF hw339_10 GW336.out).trans (hHeld.2.2.2.2.2.2.2.2.2.2.2.2.2.2.2.2.2.2.2.2.2.2.2))⟩ (fun hHeld => ?_)
 clear hK K
 refine pY (i := 21) (N := some 41) #[Y,Y,Y,Y,Y,Y,Y,Y,Y,Y,Y,Y,Y,Y,Y,Y,Y,Y,Y,Y,Y,Y,U] HT_ ?_
 refine one_ (i := 22) (N := none) #[Y,Y,Y,Y,Y,Y,Y,Y,Y,Y,Y,Y,Y,Y,Y,Y,Y,Y,Y,Y,Y,Y,Y] rfl rfl (one_of HT_.out (by kernel_rfl)) (by decide) (fun K hK => ?_)
 have hs18 := cI BK336.out 1
 have hfs18 := bF BK336.out 1
 have hns18_0 := NB334_336.out
 have hns18_1 := NB335_336.out
 have hms18_0 := NB336_334.out
 have hms18_1 := NB336_335.out
 refine skip_ (w1 := ?_) (by rfl) rfl ?_ ?_
 rotate_left
 ·go_simp
  rfl
 refine hK.out _ _ ⟨(cm (hHeld.1)), (cm (hHeld.2.1)), ((cF hw338_0 GW336.out).trans (hHeld.2.2.1)), ((cF hw338_1 GW336.out).trans (hHeld.2.2.2.1)), ((cF hw338_2 GW336.out).trans (hHeld.2.2.2.2.1)), ((cF hw338_3 GW336.out).trans (hHeld.2.2.2.2.2.1)), ((cF hw338_4 GW336.out).trans (hHeld.2.2.2.2.2.2.1)), ((cF hw338_5 GW336.out).trans (hHeld.2.2.2.2.2.2.2.1)), ((cF hw338_6 GW336.out).trans (hHeld.2.2.2.2.2.2.2.2.1)), ((cF hw338_7 GW336.out).trans (hHeld.2.2.2.2.2.2.2.2.2.1)), ((cF hw338_8 GW336.out).trans (hHeld.2.2.2.2.2.2.2.2.2.2.1)), ((cF hw338_9 GW336.out).trans (hHeld.2.2.2.2.2.2.2.2.2.2.2.1)), ((cF hw338_10 GW336.out).trans (hHeld.2.2.2.2.2.2.2.2.2.2.2.2.1)), ((cF hw339_0 GW336.out).trans (hHeld.2.2.2.2.2.2.2.2.2.2.2.2.2.1)), ((cF hw339_1 GW336.out).trans (hHeld.2.2.2.2.2.2.2.2.2.2.2.2.2.2.1)), ((cF hw339_2 GW336.out).trans (hHeld.2.2.2.2.2.2.2.2.2.2.2.2.2.2.2.1)), ((cF hw339_3 GW336.out).trans (hHeld.2.2.2.2.2.2.2.2.2.2.2.2.2.2.2.2.1)), ((cF hw339_4 GW336.out).trans (hHeld.2.2.2.2.2.2.2.2.2.2.2.2.2.2.2.2.2.1)), ((cF hw339_5 GW336.out).trans (hHeld.2.2.2.2.2.2.2.2.2.2.2.2.2.2.2.2.2.2.1)), ((cF hw339_6 GW336.out).trans (hHeld.2.2.2.2.2.2.2.2.2.2.2.2.2.2.2.2.2.2.2.1)), ((cF hw339_7 GW336.out).trans (hHeld.2.2.2.2.2.2.2.2.2.2.2.2.2.2.2.2.2.2.2.2.1)), ((cF hw339_8 GW336.out).trans (hHeld.2.2.2.2.2.2.2.2.2.2.2.2.2.2.2.2.2.2.2.2.2.1)), ((cF hw339_9 GW336.out).trans (hHeld.2.2.2.2.2.2.2.2.2.2.2.2.2.2.2.2.2.2.2.2.2.2.1)), ((cF hw339_10 GW336.out).trans (hHeld.2.2.2.2.2.2.2.2.2.2.2.2.2.2.2.2.2.2.2.2.2.2.2))⟩ (fun hHeld => ?_)
 clear hK K
 refine done_ (done_of HT_.out (by kernel_rfl)) ?_
 have hnb19 := NB336_334.out
 have hnc19 := NB334_336.out
 have hnb20 := NB336_335.out
 have hnc20 := NB335_336.out
 have hcz21 := cA4 BK336.out
 have hnb22 := NB335_334.out
 have hnc22 := NB334_335.out
 have hcz23 := cA4 BK335.out
 try go_wp2
 refine bodyPost_ret (results_cell_row rfl _ _ gb335 73 #[.int .i64 ((rd_T79 l0_1 t337).f2.f0), .int .i64 (wrap64 (((rd_T79 l0_1 t337).f2.f1) + 1)), .int .i64 a0_0, .int .i64 a1] (0, 0) _ rfl (pA4 (fm BK335.out)) Try.underlying73 rfl (by kernel_rfl)) rfl ?_
 exact ⟨xW, bl HB.out⟩

end Go.Proofs.Ythmijfekdeagpaa.PFnExactDecide
