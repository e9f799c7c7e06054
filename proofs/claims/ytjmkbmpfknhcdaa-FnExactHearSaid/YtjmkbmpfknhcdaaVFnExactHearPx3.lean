/- Of the proof of laws.FnExactHear: a part. No condition beyond what its theorems say. -/
import Derived.Test.YtjmkbmpfknhcdaaVFnExactHearPx0
import Derived.Test.YtjmkbmpfknhcdaaVFnExactHearPx1
import Derived.Test.YtjmkbmpfknhcdaaVFnExactHearPx2
namespace Go.Proofs.Ytjmkbmpfknhcdaa.PFnExactHear
open Go.RowKit Go.Proofs.YtjmkbmpfknhcdaaW.PrintWords Go.Proofs.YtjmkbmpfknhcdaaW.PrintLast Go.Proofs.YtjmkbmpfknhcdaaW.PrintMore
attribute [local go_sem] max2_int min2_int max_two min_two max_three min_three max_four min_four   -- for this text's walks alone
set_option linter.unusedVariables false
set_option linter.unusedSimpArgs false

mutual
def spec_Hear.l0 : Nat → List (S90) → Int → Int → List (S90) → Bool → Int → Int → Int → Int → Int → Option ((List (S90)))
 | 0, _, _, _, _, _, _, _, _, _, _ => none
 | k + 1, x0, x1, x2, x10, x11, x12, x112000, x112001, x112002, x112003 => if x12 < (x0.length : Int) then (if x11 = true then (spec_Hear.j1 k x0 x1 x2 x10 x11 x12 false x112000 x112001 x112002 x112003) else (if 0 ≤ x12 then ((spec_l3Before.f ((rd_T90 x0 x12).f0) ((rd_T90 x0 x12).f1) ((rd_T90 x0 x12).f2) ((rd_T90 x0 x12).f3) x112000 x112001 x112002 x112003).bind fun t116 => (spec_Hear.j1 k x0 x1 x2 x10 x11 x12 (!t116) x112000 x112001 x112002 x112003)) else (none))) else (if x11 = true then ((spec_TableOk.f k x10).bind fun t140 => (if t140 = true then (some x10) else ((some (([] : List (S90)) : List (S90))).bind fun y141 => (if y141.length + x0.length < 4398046511104 then (some (y141 ++ x0)) else (none))))) else (if x10.length < 4398046511104 then ((some (x10 ++ [(⟨x112000, x112001, x112002, x112003⟩ : S90)] : List (S90))).bind fun y147 => ((spec_TableOk.f k y147).bind fun t150 => (if t150 = true then (some y147) else ((some (([] : List (S90)) : List (S90))).bind fun y151 => (if y151.length + x0.length < 4398046511104 then (some (y151 ++ x0)) else (none)))))) else (none)))
def spec_Hear.j1 : Nat → List (S90) → Int → Int → List (S90) → Bool → Int → Bool → Int → Int → Int → Int → Option ((List (S90)))
 | 0, _, _, _, _, _, _, _, _, _, _, _ => none
 | k + 1, x0, x1, x2, x10, x11, x12, x34, x112000, x112001, x112002, x112003 => if x34 = true then (if x10.length < 4398046511104 then ((some (x10 ++ [(⟨x112000, x112001, x112002, x112003⟩ : S90)] : List (S90))).bind fun y117 => (if 0 ≤ x12 then (if x12 < (x0.length : Int) then (if ((rd_T90 x0 x12).f0) = x1 then (if ((rd_T90 x0 x12).f1) = x2 then (spec_Hear.l0 k x0 x1 x2 y117 true (wrap64 (x12 + 1)) x112000 x112001 x112002 x112003) else (if y117.length < 4398046511104 then (spec_Hear.l0 k x0 x1 x2 (y117 ++ [(⟨(rd_T90 x0 x12).f0, (rd_T90 x0 x12).f1, (rd_T90 x0 x12).f2, (rd_T90 x0 x12).f3⟩ : S90)]) true (wrap64 (x12 + 1)) x112000 x112001 x112002 x112003) else (none))) else (if y117.length < 4398046511104 then (spec_Hear.l0 k x0 x1 x2 (y117 ++ [(⟨(rd_T90 x0 x12).f0, (rd_T90 x0 x12).f1, (rd_T90 x0 x12).f2, (rd_T90 x0 x12).f3⟩ : S90)]) true (wrap64 (x12 + 1)) x112000 x112001 x112002 x112003) else (none))) else (none)) else (none))) else (none)) else (if 0 ≤ x12 then (if x12 < (x0.length : Int) then (if ((rd_T90 x0 x12).f0) = x1 then (if ((rd_T90 x0 x12).f1) = x2 then (spec_Hear.l0 k x0 x1 x2 x10 x11 (wrap64 (x12 + 1)) x112000 x112001 x112002 x112003) else (if x10.length < 4398046511104 then (spec_Hear.l0 k x0 x1 x2 (x10 ++ [(⟨(rd_T90 x0 x12).f0, (rd_T90 x0 x12).f1, (rd_T90 x0 x12).f2, (rd_T90 x0 x12).f3⟩ : S90)]) x11 (wrap64 (x12 + 1)) x112000 x112001 x112002 x112003) else (none))) else (if x10.length < 4398046511104 then (spec_Hear.l0 k x0 x1 x2 (x10 ++ [(⟨(rd_T90 x0 x12).f0, (rd_T90 x0 x12).f1, (rd_T90 x0 x12).f2, (rd_T90 x0 x12).f3⟩ : S90)]) x11 (wrap64 (x12 + 1)) x112000 x112001 x112002 x112003) else (none))) else (none)) else (none))
end
def spec_Hear.f (k : Nat) (l0 : List (S90)) (a1 : Int) (a2 : Int) (a3 : Int) : Option ((List (S90))) := spec_Hear.l0 k l0 a1 a2 (([] : List (S90))) false 0 a1 a2 a3 20
theorem spec_Hear.mono_l : ∀ k, (∀ y0 y1 y2 y3 y4 y5 y6 y7 y8 y9, LeO (spec_Hear.l0 k y0 y1 y2 y3 y4 y5 y6 y7 y8 y9) (spec_Hear.l0 (k + 1) y0 y1 y2 y3 y4 y5 y6 y7 y8 y9)) ∧ (∀ y0 y1 y2 y3 y4 y5 y6 y7 y8 y9 y10, LeO (spec_Hear.j1 k y0 y1 y2 y3 y4 y5 y6 y7 y8 y9 y10) (spec_Hear.j1 (k + 1) y0 y1 y2 y3 y4 y5 y6 y7 y8 y9 y10))
 | 0 => ⟨fun _ _ _ _ _ _ _ _ _ _ r h => by simp [spec_Hear.l0] at h, fun _ _ _ _ _ _ _ _ _ _ _ r h => by simp [spec_Hear.j1] at h⟩
 | k + 1 => by
  obtain ⟨ih0, ih1⟩ := spec_Hear.mono_l k
  refine ⟨?_, ?_⟩
  ·intro y0 y1 y2 y3 y4 y5 y6 y7 y8 y9
   unfold spec_Hear.l0
   repeat' first
   | (with_reducible exact ih0 _ _ _ _ _ _ _ _ _ _)
   | (with_reducible exact ih1 _ _ _ _ _ _ _ _ _ _ _)
   | (with_reducible exact spec_TableOk.mono _ _)
   | (with_reducible exact LeO.refl _)
   | (with_reducible exact LeO.none _)
   | (with_reducible refine LeO.ite ?_ ?_)
   | (with_reducible refine LeO.bind ?_ (fun _ => ?_))
   | exact ih0 _ _ _ _ _ _ _ _ _ _
   | exact ih1 _ _ _ _ _ _ _ _ _ _ _
   | exact spec_TableOk.mono _ _
   | exact LeO.none _
   | refine LeO.ite ?_ ?_
   | refine LeO.bind ?_ (fun _ => ?_)
  ·intro y0 y1 y2 y3 y4 y5 y6 y7 y8 y9 y10
   unfold spec_Hear.j1
   repeat' first
   | (with_reducible exact ih0 _ _ _ _ _ _ _ _ _ _)
   | (with_reducible exact ih1 _ _ _ _ _ _ _ _ _ _ _)
   | (with_reducible exact spec_TableOk.mono _ _)
   | (with_reducible exact LeO.refl _)
   | (with_reducible exact LeO.none _)
   | (with_reducible refine LeO.ite ?_ ?_)
   | (with_reducible refine LeO.bind ?_ (fun _ => ?_))
   | exact ih0 _ _ _ _ _ _ _ _ _ _
   | exact ih1 _ _ _ _ _ _ _ _ _ _ _
   | exact spec_TableOk.mono _ _
   | exact LeO.none _
   | refine LeO.ite ?_ ?_
   | refine LeO.bind ?_ (fun _ => ?_)
theorem spec_Hear.mono : ∀ a0 a1 a2 a3 k, LeO (spec_Hear.f k a0 a1 a2 a3) (spec_Hear.f (k + 1) a0 a1 a2 a3) := by
 intro a0 a1 a2 a3 k
 obtain ⟨ih0, ih1⟩ := spec_Hear.mono_l k
 unfold spec_Hear.f
 repeat' first
   | (with_reducible exact ih0 _ _ _ _ _ _ _ _ _ _)
   | (with_reducible exact ih1 _ _ _ _ _ _ _ _ _ _ _)
   | (with_reducible exact spec_TableOk.mono _ _)
   | (with_reducible exact LeO.refl _)
   | (with_reducible exact LeO.none _)
   | (with_reducible refine LeO.ite ?_ ?_)
   | (with_reducible refine LeO.bind ?_ (fun _ => ?_))
   | exact ih0 _ _ _ _ _ _ _ _ _ _
   | exact ih1 _ _ _ _ _ _ _ _ _ _ _
   | exact spec_TableOk.mono _ _
   | exact LeO.none _
   | refine LeO.ite ?_ ?_
   | refine LeO.bind ?_ (fun _ => ?_)
def spec_Hear.T7 : Bool × List (List Nat × List Nat) := (true, [([], []), ([0], [0]), ([1], [1]), ([2], [2]), ([2], [2]), ([3, 4, 2], [2, 3, 4]), ([5, 2], [2, 5]), ([2], [2]), ([6, 7, 2, 2], [2, 6, 7]), ([8, 2], [2, 8]), ([2, 9], [2, 9])])
def spec_Hear.B7 : List Nat := [0, 1, 3, 7, 7, 31, 63, 7, 255, 511, 1023]
theorem spec_Hear.tab7 : rtab .any (opsOf Try.f24 7) = spec_Hear.T7 := by kernel_rfl
theorem spec_Hear.bits7 : waitsOk spec_Hear.T7.2 spec_Hear.B7 = true := by kernel_rfl
set_option maxHeartbeats 60000000 in
set_option maxRecDepth 100000 in
theorem spec_Hear.calls (k : Nat) (A0 : Option Addr) (c0 : Nat) (l0 : List (S90)) (a1 : Int) (a2 : Int) (a3 : Int) (r : List (S90)) (w : World) (hr0 : Kd.C k90 w A0 l0.length l0) (hc0 : l0.length ≤ c0) (h : spec_Hear.f k l0 a1 a2 a3 = some r) :
  Calls Try.prog 24 #[.slice A0 l0.length c0, .int .i64 a1, .int .i64 a2, .int .i64 a3] w fun e w' => ∃ v0_ : Value, e = .returned (v0_) ∧ Kd.R k90 90 w' w.heap.size (fun _ => True) v0_ r ∧ Below w.heap.size w w' := by
 have hu90 := Try.underlying90
 have HR0 := aM hr0
 have HC0 := aM hc0
 clear hr0 hc0
 have HB := aM (Below.refl w.heap.size w)
 have H : (spec_Hear.l0 k l0 a1 a2 (([] : List (S90))) false 0 a1 a2 a3 20) = some r := h
 clear h
 obtain ⟨y112, hy112⟩ : ∃ y_ : List (S90), y_ = (([] : List (S90))) := ⟨_, rfl⟩
 replace H : (spec_Hear.l0 k l0 a1 a2 y112 false 0 a1 a2 a3 20) = some r := by first | (rw [hy112]; with_reducible exact H) | (have H2_ := (Option.bind_some _ _).symm.trans H; rw [hy112]; with_reducible exact H2_) | (have H2_ := (Option.bind_some _ _).symm.trans H; with_reducible exact H2_) | with_reducible exact H | (rw [hy112]; exact H) | exact H
 have Ny112 := aM hy112
 clear hy112
 have H' := aM H
 clear H
 go_enter Try.func24, Try.ntmps24
 go_wp2_with (first | ((with_reducible refine gate_dst (N := 9) rfl ?_); refine box_event ?hg (N := 9) ?hd (cs := #[.int .i64 0, .int .i64 0, .int .i64 0, .int .i64 0]) (t := 90) ?hr ?_; (case hd => rfl); (case hg => rfl); (case hr => first | (go_simp; done) | (go_simp; rfl)); intro gb111 hg w5 hbox hb; have n0_ := aM (bS (bl HB.out) hb); have n1_ := aM (hbox); have n2_ := aM ((by rw [hg]; exact (below_size (bl HB.out)) : w.heap.size ≤ gb111)); have n3_ := aM ((by rw [hg]; exact (below_size (bl HB.out)) : w.heap.size ≤ gb111)); clear HB; have HB := n0_; have BK111 := n1_; have GW111 := n2_; have GE111 := n3_; clear n0_ n1_ n2_ n3_; clear hb hbox hg; have hcz6_0 := cI BK111.out 0; have hcz6_1 := cI BK111.out 1; have hcz6_2 := cI BK111.out 2; have hcz6_3 := cI BK111.out 3; have hfz6_0 := bF BK111.out 0; have hfz6_1 := bF BK111.out 1; have hfz6_2 := bF BK111.out 2; have hfz6_3 := bF BK111.out 3) | ((with_reducible refine gate_dst (N := 17) rfl ?_); refine Kd.R_lit k90 _ 90 ?hg (N := 17) ?hd (xs := ([] : List (S90))) (inner := []) (ok := fun _ => True) (okp := fun _ => True) ?hr ?hp (fun _ hk => hk) trivial (Below.refl _ _) (Nat.le_refl _) (by simp) ?_; (case hd => rfl); (case hg => rfl); (case hr => first | (go_simp; done) | (go_simp; rfl)); (case hp => exact (Reps.none _ _)); intro v113 w7 ho8 hb hg_ hnew_; clear hg_ hnew_; (first | rw [← Ny112.out] at ho8 | (simp only [Int.reduceToNat] at ho8; rw [← Ny112.out] at ho8)); have n0_ := aM (Kd.R_lower (Kd.R_newB ho8 (g := gb111) (o := .cells #[.int .i64 a1, .int .i64 a2, .int .i64 a3, .int .i64 20] 90 (0, 0)) (by (with_reducible repeat (first | refine blk_drewN ?_ _ | refine blk_drew ?_ | refine blk_alloc ?_ _)); refine blk_put (cs := #[.int .i64 a1, .int .i64 a2, .int .i64 a3, .int .i64 0]) ?_ 3 _ rfl; (with_reducible repeat (first | refine blk_drewN ?_ _ | refine blk_drew ?_ | refine blk_alloc ?_ _)); refine blk_put (cs := #[.int .i64 a1, .int .i64 a2, .int .i64 0, .int .i64 0]) ?_ 2 _ rfl; (with_reducible repeat (first | refine blk_drewN ?_ _ | refine blk_drew ?_ | refine blk_alloc ?_ _)); refine blk_put (cs := #[.int .i64 a1, .int .i64 0, .int .i64 0, .int .i64 0]) ?_ 1 _ rfl; (with_reducible repeat (first | refine blk_drewN ?_ _ | refine blk_drew ?_ | refine blk_alloc ?_ _)); refine blk_put (cs := #[.int .i64 0, .int .i64 0, .int .i64 0, .int .i64 0]) ?_ 0 _ rfl; (with_reducible repeat (first | refine blk_drewN ?_ _ | refine blk_drew ?_ | refine blk_alloc ?_ _)); exact BK111.out)) (below_size (bl HB.out))); have n1_ := aM (bB (g := gb111) (o := .cells #[.int .i64 a1, .int .i64 a2, .int .i64 a3, .int .i64 20] 90 (0, 0)) (by (with_reducible repeat (first | refine blk_drewN ?_ _ | refine blk_drew ?_ | refine blk_alloc ?_ _)); refine blk_put (cs := #[.int .i64 a1, .int .i64 a2, .int .i64 a3, .int .i64 0]) ?_ 3 _ rfl; (with_reducible repeat (first | refine blk_drewN ?_ _ | refine blk_drew ?_ | refine blk_alloc ?_ _)); refine blk_put (cs := #[.int .i64 a1, .int .i64 a2, .int .i64 0, .int .i64 0]) ?_ 2 _ rfl; (with_reducible repeat (first | refine blk_drewN ?_ _ | refine blk_drew ?_ | refine blk_alloc ?_ _)); refine blk_put (cs := #[.int .i64 a1, .int .i64 0, .int .i64 0, .int .i64 0]) ?_ 1 _ rfl; (with_reducible repeat (first | refine blk_drewN ?_ _ | refine blk_drew ?_ | refine blk_alloc ?_ _)); refine blk_put (cs := #[.int .i64 0, .int .i64 0, .int .i64 0, .int .i64 0]) ?_ 0 _ rfl; (with_reducible repeat (first | refine blk_drewN ?_ _ | refine blk_drew ?_ | refine blk_alloc ?_ _)); exact BK111.out) hb); have n2_ := aM (bS (bl HB.out) hb); clear BK111 HB; have HO114 := n0_; have BK111 := n1_; have HB := n2_; clear n0_ n1_ n2_; clear hb ho8))
 go_loopg [10, 11, 12] k (fun kq v10 v11 v12 w' => ∃ (x10_1 : List (S90)) (x11_1 : Bool) (x12_1 : Int), v11 = .bool x11_1 ∧ v12 = .int .i64 x12_1 ∧ Aside0 (spec_Hear.l0 kq l0 a1 a2 x10_1 x11_1 x12_1 a1 a2 a3 20 = some r) ∧ Aside0 (kq ≤ k) ∧ Aside0 (Kd.R k90 90 w' w.heap.size (fun k_ => k_ ≠ gb111) v10 x10_1) ∧ Aside0 (w'.heap[gb111]? = some (.cells #[.int .i64 a1, .int .i64 a2, .int .i64 a3, .int .i64 20] 90 (0, 0))) ∧ Aside0 (Below w.heap.size w w'))
 case atStart => exact ⟨(y112), (false), (0), xE, xE, H', ⟨Nat.le_refl _⟩, ⟨kr (Kd.R_mono HO114.out (fun _ hk => hk.2))⟩, ⟨by (with_reducible repeat (first | refine blk_drewN ?_ _ | refine blk_drew ?_ | refine blk_alloc ?_ _)); exact BK111.out⟩, ⟨bl HB.out⟩⟩
 case round =>
  clear H'
  try clear c2
  try clear p2
  try clear hcz6_0
  try clear hcz6_1
  try clear hcz6_2
  try clear hcz6_3
  try clear hfz6_0
  try clear hfz6_1
  try clear hfz6_2
  try clear hfz6_3
  obtain ⟨x10_1, x11_1, x12_1, rfl, rfl, HA, HK1, HO_10, BK111, HB⟩ := hrel
  cases gk with
  | zero => exact absurd HA.out (by simp [spec_Hear.l0])
  | succ k1 =>
   have H := HA.out
   clear HA
   simp only [spec_Hear.l0] at H
   by_cases c9 : x12_1 < (l0.length : Int)
   case neg =>
    rw [if_neg c9] at H
    have c9b0 : decide (x12_1 < (l0.length : Int)) = false := decide_eq_false c9
    clear c9
    by_cases c41 : x11_1 = true
    case pos =>
     subst c41
     have H1 : ((spec_TableOk.f k1 x10_1).bind fun t140 => (if t140 = true then (some x10_1) else ((some (([] : List (S90)) : List (S90))).bind fun y141 => (if y141.length + l0.length < 4398046511104 then (some (y141 ++ l0)) else (none))))) = some r := by rw [if_pos rfl] at H; exact H
     clear H
     have H := H1
     clear H1
     replace H := Option.bind_eq_some_iff.mp H
     obtain ⟨t140, A420, H⟩ := H
     replace H : (if t140 = true then (some x10_1) else ((some (([] : List (S90)) : List (S90))).bind fun y141 => (if y141.length + l0.length < 4398046511104 then (some (y141 ++ l0)) else (none)))) = some r := H
     have A42 := aM A420
     clear A420
     by_cases c43 : t140 = true
     case pos =>
      subst c43
      have H1 : (some x10_1) = some r := by rw [if_pos rfl] at H; exact H
      clear H
      have H := H1
      clear H1
      obtain rfl := Option.some.inj H
      obtain ⟨Ao44, co44, eo44⟩ := Kd.R_slice HO_10.out
      subst eo44
      go_wp2_with (first | ((with_reducible refine gate_callee (f := 73) rfl ?_); refine goesL_ (some 69) rfl rfl Try.func73 (by kernel_rfl) rfl #[.slice Ao44 x10_1.length co44] rfl xR ?_; (with_reducible refine (spec_TableOk.calls k1 _ _ x10_1 true _ ?side1 ?side2 A42.out).mono ?_); (case side1 => repeat (first | exact (Kd.R_reads' HO_10.out).2.2 | (with_reducible refine Kd.C_alloc ?_ _) | (with_reducible refine Kd.C_drewN ?_ _) | (with_reducible refine Kd.C_drew ?_))); (case side2 => exact (Kd.R_reads' HO_10.out).2.1); rintro e w45 ⟨rfl, hb⟩; refine ⟨_, rfl, ?_⟩; have n0_ := aM (kB (kr HO_10.out) hb); have n1_ := aM (bB (g := gb111) (o := .cells #[.int .i64 a1, .int .i64 a2, .int .i64 a3, .int .i64 20] 90 (0, 0)) (bk BK111.out) hb); have n2_ := aM (bS (bl HB.out) hb); clear HO_10 BK111 HB; have HO_10 := n0_; have BK111 := n1_; have HB := n2_; clear n0_ n1_ n2_; (try clear hb)))
      go_ret
      exact ⟨_, xW, by (with_reducible repeat (first | apply Kd.R_alloc | apply Kd.R_drewN | apply Kd.R_drew)); exact Kd.R_mono HO_10.out (fun _ hk => trivial), bl HB.out⟩
     replace c43 := Bool.eq_false_iff.mpr c43
     subst c43
     have H1 : ((some (([] : List (S90)) : List (S90))).bind fun y141 => (if y141.length + l0.length < 4398046511104 then (some (y141 ++ l0)) else (none))) = some r := by rw [if_neg (show ¬ (false = true) by decide)] at H; exact H
     clear H
     have H := H1
     clear H1
     obtain ⟨y141, hy141⟩ : ∃ y_ : List (S90), y_ = (([] : List (S90))) := ⟨_, rfl⟩
     replace H : (if y141.length + l0.length < 4398046511104 then (some (y141 ++ l0)) else (none)) = some r := by first | (rw [hy141]; with_reducible exact H) | (have H2_ := (Option.bind_some _ _).symm.trans H; rw [hy141]; with_reducible exact H2_) | (have H2_ := (Option.bind_some _ _).symm.trans H; with_reducible exact H2_) | with_reducible exact H | (rw [hy141]; exact H) | exact H
     have Ny141 := aM hy141
     clear hy141
     by_cases c46 : y141.length + l0.length < 4398046511104
     case neg =>
      rw [if_neg c46] at H
      exact absurd H (by simp)
     rw [if_pos c46] at H
     have LMc46 := aM c46
     clear c46
     obtain ⟨y144, hy144⟩ : ∃ y_ : List (S90), y_ = (y141 ++ l0) := ⟨_, rfl⟩
     replace H : (some y144) = some r := by first | (rw [hy144]; with_reducible exact H) | (have H2_ := (Option.bind_some _ _).symm.trans H; rw [hy144]; with_reducible exact H2_) | (have H2_ := (Option.bind_some _ _).symm.trans H; with_reducible exact H2_) | with_reducible exact H | (rw [hy144]; exact H) | exact H
     have Ny144 := aM hy144
     clear hy144
     obtain rfl := Option.some.inj H
     obtain ⟨Ao47, co47, eo47⟩ := Kd.R_slice HO_10.out
     subst eo47
     go_wp2_with (first | ((with_reducible refine gate_callee (f := 73) rfl ?_); refine goesL_ (some 69) rfl rfl Try.func73 (by kernel_rfl) rfl #[.slice Ao47 x10_1.length co47] rfl xR ?_; (with_reducible refine (spec_TableOk.calls k1 _ _ x10_1 false _ ?side1 ?side2 A42.out).mono ?_); (case side1 => repeat (first | exact (Kd.R_reads' HO_10.out).2.2 | (with_reducible refine Kd.C_alloc ?_ _) | (with_reducible refine Kd.C_drewN ?_ _) | (with_reducible refine Kd.C_drew ?_))); (case side2 => exact (Kd.R_reads' HO_10.out).2.1); rintro e w48 ⟨rfl, hb⟩; refine ⟨_, rfl, ?_⟩; have n0_ := aM (kB (kr HO_10.out) hb); have n1_ := aM (bB (g := gb111) (o := .cells #[.int .i64 a1, .int .i64 a2, .int .i64 a3, .int .i64 20] 90 (0, 0)) (bk BK111.out) hb); have n2_ := aM (bS (bl HB.out) hb); clear HO_10 BK111 HB; have HO_10 := n0_; have BK111 := n1_; have HB := n2_; clear n0_ n1_ n2_; (try clear hb)) | ((with_reducible refine gate_dst (N := 71) rfl ?_); refine Kd.R_lit k90 _ 90 ?hg (N := 71) ?hd (xs := ([] : List (S90))) (inner := []) (ok := fun _ => True) (okp := fun _ => True) ?hr ?hp (fun _ hk => hk) trivial (Below.refl _ _) (Nat.le_refl _) (by simp) ?_; (case hd => rfl); (case hg => rfl); (case hr => first | (go_simp; done) | (go_simp; rfl) | (obtain ⟨A_, c_, e_⟩ := Kd.R_slice HO_10.out; subst e_; (first | (go_simp; done) | (go_simp; rfl))) | (obtain ⟨A_, c_, e_⟩ := Kd.S_slice HO_10.out; subst e_; (first | (go_simp; done) | (go_simp; rfl))) | (obtain ⟨A_, c_, e_⟩ := Kd.R_slice HO143.out; subst e_; (first | (go_simp; done) | (go_simp; rfl))) | (obtain ⟨A_, c_, e_⟩ := Kd.S_slice HO143.out; subst e_; (first | (go_simp; done) | (go_simp; rfl)))); (case hp => exact (Reps.none _ _)); intro v142 w49 ho50 hb hg_ hnew_; clear hg_ hnew_; (first | rw [← Ny141.out] at ho50 | (simp only [Int.reduceToNat] at ho50; rw [← Ny141.out] at ho50)); have n0_ := aM (Kd.R_elder' (kr HO_10.out) (Kd.R_base ho50) hb); have n1_ := aM (Kd.R_lower (Kd.R_newB (Kd.R_new' ho50 (Kd.R_lt (kr HO_10.out))) (g := gb111) (o := .cells #[.int .i64 a1, .int .i64 a2, .int .i64 a3, .int .i64 20] 90 (0, 0)) (bk BK111.out)) (below_size (bl HB.out))); have n2_ := aM (bB (g := gb111) (o := .cells #[.int .i64 a1, .int .i64 a2, .int .i64 a3, .int .i64 20] 90 (0, 0)) (bk BK111.out) hb); have n3_ := aM (bS (bl HB.out) hb); clear HO_10 BK111 HB; have HO_10 := n0_; have HO143 := n1_; have BK111 := n2_; have HB := n3_; clear n0_ n1_ n2_ n3_; clear hb ho50) | ((with_reducible refine gate_builtin (b := .append) (xs := #[.tmp 71, .tmp 72]) rfl ?_); at_builtin; refine Kd.R_append_rows k90 (w0 := w) w.heap.size rfl (.tmp 71) (.tmp 72) 38 90 (.agg #[(.int .i64 0), (.int .i64 0), (.int .i64 0), (.int .i64 0)]) 32 rfl Try.underlying38 info90 rfl (by decide) (by omega) v142 y141 l0 _ _ _ (fun k_ => some k_ ≠ (.slice Ao47 x10_1.length co47 : Value).ownBlock ∧ k_ ≠ gb111) (fun _ => False) rfl rfl ?aO ?aR (fun _ _ h => h) (fun _ h => h.elim) ?aF ?aB ?aS ?aL ?_; (case aR => repeat (first | exact (cB HR0.out HB.out) | (with_reducible refine Kd.C_alloc ?_ _) | (with_reducible refine Kd.C_drewN ?_ _) | (with_reducible refine Kd.C_drew ?_))); (case aB => exact (bl HB.out)); (case aF => exact (fun k_ hk => ⟨Kd.fresh' (Kd.R_lt (kr HO_10.out)) k_ hk, Kd.freshB (g := gb111) (o := .cells #[.int .i64 a1, .int .i64 a2, .int .i64 a3, .int .i64 20] 90 (0, 0)) (bk BK111.out) k_ hk⟩)); (case aO => exact (kr (Kd.R_mono HO143.out (fun _ hk => ⟨hk.1.2, hk.2⟩)))); (case aS => exact (below_size (bl HB.out))); (case aL => have := LMc46.out; omega); intro v145 w51 ho hb hg hat; rw [← Ny144.out] at ho; have n0_ := aM (Kd.R_after (ok := (fun k_ => k_ ≠ gb111)) (kr HO_10.out) hg hat); have n1_ := aM (blk_grown (g := gb111) (o := .cells #[.int .i64 a1, .int .i64 a2, .int .i64 a3, .int .i64 20] 90 (0, 0)) (bk BK111.out) hg (Kd.R_away HO143.out (fun _ hk => hk.2))); have n2_ := aM (hb); have n3_ := aM (ho); clear HO_10 BK111; clear HB HO143; have HO_10 := n0_; have BK111 := n1_; have HB := n2_; have HO146 := n3_; clear n0_ n1_ n2_ n3_; clear ho hb hg hat))
     go_ret
     exact ⟨_, xW, by (with_reducible repeat (first | apply Kd.R_alloc | apply Kd.R_drewN | apply Kd.R_drew)); exact Kd.R_mono HO146.out (fun _ hk => trivial), bl HB.out⟩
    replace c41 := Bool.eq_false_iff.mpr c41
    subst c41
    have H1 : (if x10_1.length < 4398046511104 then ((some (x10_1 ++ [(⟨a1, a2, a3, 20⟩ : S90)] : List (S90))).bind fun y147 => ((spec_TableOk.f k1 y147).bind fun t150 => (if t150 = true then (some y147) else ((some (([] : List (S90)) : List (S90))).bind fun y151 => (if y151.length + l0.length < 4398046511104 then (some (y151 ++ l0)) else (none)))))) else (none)) = some r := by rw [if_neg (show ¬ (false = true) by decide)] at H; exact H
    clear H
    have H := H1
    clear H1
    by_cases c52 : x10_1.length < 4398046511104
    case neg =>
     rw [if_neg c52] at H
     exact absurd H (by simp)
    rw [if_pos c52] at H
    have LMc52 := aM c52
    clear c52
    obtain ⟨y147, hy147⟩ : ∃ y_ : List (S90), y_ = (x10_1 ++ [(⟨a1, a2, a3, 20⟩ : S90)]) := ⟨_, rfl⟩
    replace H : ((spec_TableOk.f k1 y147).bind fun t150 => (if t150 = true then (some y147) else ((some (([] : List (S90)) : List (S90))).bind fun y151 => (if y151.length + l0.length < 4398046511104 then (some (y151 ++ l0)) else (none))))) = some r := by first | (rw [hy147]; with_reducible exact H) | (have H2_ := (Option.bind_some _ _).symm.trans H; rw [hy147]; with_reducible exact H2_) | (have H2_ := (Option.bind_some _ _).symm.trans H; with_reducible exact H2_) | with_reducible exact H | (rw [hy147]; exact H) | exact H
    have Ny147 := aM hy147
    clear hy147
    replace H := Option.bind_eq_some_iff.mp H
    obtain ⟨t150, A530, H⟩ := H
    replace H : (if t150 = true then (some y147) else ((some (([] : List (S90)) : List (S90))).bind fun y151 => (if y151.length + l0.length < 4398046511104 then (some (y151 ++ l0)) else (none)))) = some r := H
    have A53 := aM A530
    clear A530
    by_cases c54 : t150 = true
    case pos =>
     subst c54
     have H1 : (some y147) = some r := by rw [if_pos rfl] at H; exact H
     clear H
     have H := H1
     clear H1
     obtain rfl := Option.some.inj H
     have hcz55_0 := cI BK111.out 0
     have hcz55_1 := cI BK111.out 1
     have hcz55_2 := cI BK111.out 2
     have hcz55_3 := cI BK111.out 3
     have hfz55_0 := bF BK111.out 0
     have hfz55_1 := bF BK111.out 1
     have hfz55_2 := bF BK111.out 2
     have hfz55_3 := bF BK111.out 3
     go_wp2_with (first | ((with_reducible refine gate_builtin (b := .append) (xs := #[.tmp 64, .tmp 66]) rfl ?_); at_builtin; refine Kd.R_append k90 (w0 := w) w.heap.size rfl (.tmp 64) (.tmp 66) 38 90 (.agg #[(.int .i64 0), (.int .i64 0), (.int .i64 0), (.int .i64 0)]) 32 rfl Try.underlying38 info90 rfl (by decide) (by omega) u10 x10_1 (⟨a1, a2, a3, 20⟩ : S90) [.int .i64 a1, .int .i64 a2, .int .i64 a3, .int .i64 20] (fun k_ => k_ ≠ gb111) (fun _ => False) rfl rfl ?aP (fun _ hk => hk.elim) ?aF ?aO ?aB ?aS ?aL ?_; (case aP => exact k90_mkM _ _ _ (⟨a1, a2, a3, 20⟩ : S90)); (case aB => exact (bl HB.out)); (case aF => exact (fun k_ hk => Kd.freshB (g := gb111) (o := .cells #[.int .i64 a1, .int .i64 a2, .int .i64 a3, .int .i64 20] 90 (0, 0)) (bk BK111.out) k_ hk)); (case aO => exact (kr HO_10.out)); (case aS => exact (below_size (bl HB.out))); (case aL => have := LMc52.out; omega); intro v148 w56 ho hb hg hat; rw [← Ny147.out] at ho; have n0_ := aM (blk_grown (g := gb111) (o := .cells #[.int .i64 a1, .int .i64 a2, .int .i64 a3, .int .i64 20] 90 (0, 0)) (bk BK111.out) hg (Kd.R_away HO_10.out (fun _ hk => hk))); have n1_ := aM (hb); have n2_ := aM (ho); clear BK111 HB HO_10; have BK111 := n0_; have HB := n1_; have HO149 := n2_; clear n0_ n1_ n2_; clear ho hb hg hat; obtain ⟨Ao57, co57, eo57⟩ := Kd.R_slice HO149.out; subst eo57) | ((with_reducible refine gate_callee (f := 73) rfl ?_); refine goesL_ (some 69) rfl rfl Try.func73 (by kernel_rfl) rfl #[.slice Ao57 y147.length co57] rfl xR ?_; (with_reducible refine (spec_TableOk.calls k1 _ _ y147 true _ ?side1 ?side2 A53.out).mono ?_); (case side1 => repeat (first | exact (Kd.R_reads' HO149.out).2.2 | (with_reducible refine Kd.C_alloc ?_ _) | (with_reducible refine Kd.C_drewN ?_ _) | (with_reducible refine Kd.C_drew ?_))); (case side2 => exact (Kd.R_reads' HO149.out).2.1); rintro e w58 ⟨rfl, hb⟩; refine ⟨_, rfl, ?_⟩; have n0_ := aM (kB (kr HO149.out) hb); have n1_ := aM (bB (g := gb111) (o := .cells #[.int .i64 a1, .int .i64 a2, .int .i64 a3, .int .i64 20] 90 (0, 0)) (bk BK111.out) hb); have n2_ := aM (bS (bl HB.out) hb); clear HO149 BK111 HB; have HO149 := n0_; have BK111 := n1_; have HB := n2_; clear n0_ n1_ n2_; (try clear hb)))
     go_ret
     exact ⟨_, xW, by (with_reducible repeat (first | apply Kd.R_alloc | apply Kd.R_drewN | apply Kd.R_drew)); exact Kd.R_mono HO149.out (fun _ hk => trivial), bl HB.out⟩
    replace c54 := Bool.eq_false_iff.mpr c54
    subst c54
    have H1 : ((some (([] : List (S90)) : List (S90))).bind fun y151 => (if y151.length + l0.length < 4398046511104 then (some (y151 ++ l0)) else (none))) = some r := by rw [if_neg (show ¬ (false = true) by decide)] at H; exact H
    clear H
    have H := H1
    clear H1
    obtain ⟨y151, hy151⟩ : ∃ y_ : List (S90), y_ = (([] : List (S90))) := ⟨_, rfl⟩
    replace H : (if y151.length + l0.length < 4398046511104 then (some (y151 ++ l0)) else (none)) = some r := by first | (rw [hy151]; with_reducible exact H) | (have H2_ := (Option.bind_some _ _).symm.trans H; rw [hy151]; with_reducible exact H2_) | (have H2_ := (Option.bind_some _ _).symm.trans H; with_reducible exact H2_) | with_reducible exact H | (rw [hy151]; exact H) | exact H
    have Ny151 := aM hy151
    clear hy151
    by_cases c59 : y151.length + l0.length < 4398046511104
    case neg =>
     rw [if_neg c59] at H
     exact absurd H (by simp)
    rw [if_pos c59] at H
    have LMc59 := aM c59
    clear c59
    obtain ⟨y154, hy154⟩ : ∃ y_ : List (S90), y_ = (y151 ++ l0) := ⟨_, rfl⟩
    replace H : (some y154) = some r := by first | (rw [hy154]; with_reducible exact H) | (have H2_ := (Option.bind_some _ _).symm.trans H; rw [hy154]; with_reducible exact H2_) | (have H2_ := (Option.bind_some _ _).symm.trans H; with_reducible exact H2_) | with_reducible exact H | (rw [hy154]; exact H) | exact H
    have Ny154 := aM hy154
    clear hy154
    obtain rfl := Option.some.inj H
    have hcz60_0 := cI BK111.out 0
    have hcz60_1 := cI BK111.out 1
    have hcz60_2 := cI BK111.out 2
    have hcz60_3 := cI BK111.out 3
    have hfz60_0 := bF BK111.out 0
    have hfz60_1 := bF BK111.out 1
    have hfz60_2 := bF BK111.out 2
    have hfz60_3 := bF BK111.out 3
    go_wp2_with (first | ((with_reducible refine gate_builtin (b := .append) (xs := #[.tmp 64, .tmp 66]) rfl ?_); at_builtin; refine Kd.R_append k90 (w0 := w) w.heap.size rfl (.tmp 64) (.tmp 66) 38 90 (.agg #[(.int .i64 0), (.int .i64 0), (.int .i64 0), (.int .i64 0)]) 32 rfl Try.underlying38 info90 rfl (by decide) (by omega) u10 x10_1 (⟨a1, a2, a3, 20⟩ : S90) [.int .i64 a1, .int .i64 a2, .int .i64 a3, .int .i64 20] (fun k_ => k_ ≠ gb111) (fun _ => False) rfl rfl ?aP (fun _ hk => hk.elim) ?aF ?aO ?aB ?aS ?aL ?_; (case aP => exact k90_mkM _ _ _ (⟨a1, a2, a3, 20⟩ : S90)); (case aB => exact (bl HB.out)); (case aF => exact (fun k_ hk => Kd.freshB (g := gb111) (o := .cells #[.int .i64 a1, .int .i64 a2, .int .i64 a3, .int .i64 20] 90 (0, 0)) (bk BK111.out) k_ hk)); (case aO => exact (kr HO_10.out)); (case aS => exact (below_size (bl HB.out))); (case aL => have := LMc52.out; omega); intro v148 w61 ho hb hg hat; rw [← Ny147.out] at ho; have n0_ := aM (blk_grown (g := gb111) (o := .cells #[.int .i64 a1, .int .i64 a2, .int .i64 a3, .int .i64 20] 90 (0, 0)) (bk BK111.out) hg (Kd.R_away HO_10.out (fun _ hk => hk))); have n1_ := aM (hb); have n2_ := aM (ho); clear BK111 HB HO_10; have BK111 := n0_; have HB := n1_; have HO149 := n2_; clear n0_ n1_ n2_; clear ho hb hg hat; obtain ⟨Ao62, co62, eo62⟩ := Kd.R_slice HO149.out; subst eo62) | ((with_reducible refine gate_callee (f := 73) rfl ?_); refine goesL_ (some 69) rfl rfl Try.func73 (by kernel_rfl) rfl #[.slice Ao62 y147.length co62] rfl xR ?_; (with_reducible refine (spec_TableOk.calls k1 _ _ y147 false _ ?side1 ?side2 A53.out).mono ?_); (case side1 => repeat (first | exact (Kd.R_reads' HO149.out).2.2 | (with_reducible refine Kd.C_alloc ?_ _) | (with_reducible refine Kd.C_drewN ?_ _) | (with_reducible refine Kd.C_drew ?_))); (case side2 => exact (Kd.R_reads' HO149.out).2.1); rintro e w63 ⟨rfl, hb⟩; refine ⟨_, rfl, ?_⟩; have n0_ := aM (kB (kr HO149.out) hb); have n1_ := aM (bB (g := gb111) (o := .cells #[.int .i64 a1, .int .i64 a2, .int .i64 a3, .int .i64 20] 90 (0, 0)) (bk BK111.out) hb); have n2_ := aM (bS (bl HB.out) hb); clear HO149 BK111 HB; have HO149 := n0_; have BK111 := n1_; have HB := n2_; clear n0_ n1_ n2_; (try clear hb)) | ((with_reducible refine gate_dst (N := 71) rfl ?_); refine Kd.R_lit k90 _ 90 ?hg (N := 71) ?hd (xs := ([] : List (S90))) (inner := []) (ok := fun _ => True) (okp := fun _ => True) ?hr ?hp (fun _ hk => hk) trivial (Below.refl _ _) (Nat.le_refl _) (by simp) ?_; (case hd => rfl); (case hg => rfl); (case hr => first | (go_simp; done) | (go_simp; rfl) | (obtain ⟨A_, c_, e_⟩ := Kd.R_slice HO149.out; subst e_; (first | (go_simp; done) | (go_simp; rfl))) | (obtain ⟨A_, c_, e_⟩ := Kd.S_slice HO149.out; subst e_; (first | (go_simp; done) | (go_simp; rfl))) | (obtain ⟨A_, c_, e_⟩ := Kd.R_slice HO153.out; subst e_; (first | (go_simp; done) | (go_simp; rfl))) | (obtain ⟨A_, c_, e_⟩ := Kd.S_slice HO153.out; subst e_; (first | (go_simp; done) | (go_simp; rfl)))); (case hp => exact (Reps.none _ _)); intro v152 w64 ho65 hb hg_ hnew_; clear hg_ hnew_; (first | rw [← Ny151.out] at ho65 | (simp only [Int.reduceToNat] at ho65; rw [← Ny151.out] at ho65)); have n0_ := aM (Kd.R_elder' (kr HO149.out) (Kd.R_base ho65) hb); have n1_ := aM (Kd.R_lower (Kd.R_newB (Kd.R_new' ho65 (Kd.R_lt (kr HO149.out))) (g := gb111) (o := .cells #[.int .i64 a1, .int .i64 a2, .int .i64 a3, .int .i64 20] 90 (0, 0)) (bk BK111.out)) (below_size (bl HB.out))); have n2_ := aM (bB (g := gb111) (o := .cells #[.int .i64 a1, .int .i64 a2, .int .i64 a3, .int .i64 20] 90 (0, 0)) (bk BK111.out) hb); have n3_ := aM (bS (bl HB.out) hb); clear HO149 BK111 HB; have HO149 := n0_; have HO153 := n1_; have BK111 := n2_; have HB := n3_; clear n0_ n1_ n2_ n3_; clear hb ho65) | ((with_reducible refine gate_builtin (b := .append) (xs := #[.tmp 71, .tmp 72]) rfl ?_); at_builtin; refine Kd.R_append_rows k90 (w0 := w) w.heap.size rfl (.tmp 71) (.tmp 72) 38 90 (.agg #[(.int .i64 0), (.int .i64 0), (.int .i64 0), (.int .i64 0)]) 32 rfl Try.underlying38 info90 rfl (by decide) (by omega) v152 y151 l0 _ _ _ (fun k_ => some k_ ≠ (.slice Ao62 y147.length co62 : Value).ownBlock ∧ k_ ≠ gb111) (fun _ => False) rfl rfl ?aO ?aR (fun _ _ h => h) (fun _ h => h.elim) ?aF ?aB ?aS ?aL ?_; (case aR => repeat (first | exact (cB HR0.out HB.out) | (with_reducible refine Kd.C_alloc ?_ _) | (with_reducible refine Kd.C_drewN ?_ _) | (with_reducible refine Kd.C_drew ?_))); (case aB => exact (bl HB.out)); (case aF => exact (fun k_ hk => ⟨Kd.fresh' (Kd.R_lt (kr HO149.out)) k_ hk, Kd.freshB (g := gb111) (o := .cells #[.int .i64 a1, .int .i64 a2, .int .i64 a3, .int .i64 20] 90 (0, 0)) (bk BK111.out) k_ hk⟩)); (case aO => exact (kr (Kd.R_mono HO153.out (fun _ hk => ⟨hk.1.2, hk.2⟩)))); (case aS => exact (below_size (bl HB.out))); (case aL => have := LMc59.out; omega); intro v155 w66 ho hb hg hat; rw [← Ny154.out] at ho; have n0_ := aM (blk_grown (g := gb111) (o := .cells #[.int .i64 a1, .int .i64 a2, .int .i64 a3, .int .i64 20] 90 (0, 0)) (bk BK111.out) hg (Kd.R_away HO153.out (fun _ hk => hk.2))); have n1_ := aM (Kd.R_after (ok := (fun k_ => k_ ≠ gb111)) (kr HO149.out) hg hat); have n2_ := aM (hb); have n3_ := aM (ho); clear BK111 HO149; clear HB HO153; have BK111 := n0_; have HO149 := n1_; have HB := n2_; have HO156 := n3_; clear n0_ n1_ n2_ n3_; clear ho hb hg hat))
    go_ret
    exact ⟨_, xW, by (with_reducible repeat (first | apply Kd.R_alloc | apply Kd.R_drewN | apply Kd.R_drew)); exact Kd.R_mono HO156.out (fun _ hk => trivial), bl HB.out⟩
   rw [if_pos c9] at H
   have c9b0 : decide (x12_1 < (l0.length : Int)) = true := decide_eq_true c9
   clear c9
   have HC10 := aM H
   clear H
   go_upto_region 7 with (fail)
   go_cut [34] (fun v34 wc => ∃ (kq : Nat) (x34_9 : Bool), v34 = .bool x34_9 ∧ Aside0 (spec_Hear.j1 kq l0 a1 a2 x10_1 x11_1 x12_1 x34_9 a1 a2 a3 20 = some r) ∧ Aside0 (kq ≤ k1) ∧ Aside0 (Kd.R k90 90 wc w.heap.size (fun k_ => k_ ≠ gb111) u10 x10_1) ∧ Aside0 (wc.heap[gb111]? = some (.cells #[.int .i64 a1, .int .i64 a2, .int .i64 a3, .int .i64 20] 90 (0, 0))) ∧ Aside0 (Below w.heap.size w wc))
   case first =>
    have H := HC10.out
    clear HC10
    by_cases c11 : x11_1 = true
    case pos =>
     subst c11
     have H1 : (spec_Hear.j1 k1 l0 a1 a2 x10_1 true x12_1 false a1 a2 a3 20) = some r := by rw [if_pos rfl] at H; exact H
     clear H
     have H := H1
     clear H1
     have H' := aM H
     clear H
     try go_wp2
     have n0_ := aM (Kd.R_drew HO_10.out)
     have n1_ := aM (blk_drew BK111.out)
     have n2_ := aM (below_drew1 HB.out)
     clear HO_10 BK111 HB
     have HO_10 := n0_
     have BK111 := n1_
     have HB := n2_
     clear n0_ n1_ n2_
     refine start_ (n := 11) (S := fun w' => True) (ds := []) #[U,U,U,U,U,U,U,U,U,U,U] (by kernel_rfl) rfl rfl trivial (fun hHeld => ?_); refine with_tabW spec_Hear.tab7 spec_Hear.bits7 (fun HT_ HW_ => ?_)
     generalize wr.drew = w12 at HO_10 BK111 HB hHeld ⊢
     refine pure_ (i := 0) (N := some 24) (v := ?_) (a' := ?_) #[Y,U,U,U,U,U,U,U,U,U,U] rfl rfl (any_of HT_.out (by kernel_rfl)) (fun _ _ _ h => h) (Or.inl ⟨by rfl, ?_⟩) ?_ ?_
     rotate_left
     ·intro w'
      go_simp
      with_reducible rfl
     rotate_left
     ·simp only [Act.put, sA, sZ, sS, i64_w, i32_w]
      rfl
     refine pure_ (i := 1) (N := some 25) (v := ?_) (a' := ?_) #[Y,Y,U,U,U,U,U,U,U,U,U] rfl rfl (any_of HT_.out (by kernel_rfl)) (fun _ _ _ h => h) (Or.inl ⟨by rfl, ?_⟩) ?_ ?_
     rotate_left
     ·intro w'
      go_simp
      with_reducible rfl
     rotate_left
     ·simp only [Act.put, sA, sZ, sS, i64_w, i32_w]
      rfl
     refine pure_ (i := 2) (N := some 26) (v := ?_) (a' := ?_) #[Y,Y,Y,U,U,U,U,U,U,U,U] rfl rfl (any_of HT_.out (by kernel_rfl)) (fun _ _ _ h => h) (Or.inl ⟨by rfl, ?_⟩) ?_ ?_
     rotate_left
     ·intro w'
      go_simp
      with_reducible rfl
     rotate_left
     ·simp only [Act.put, sA, sZ, sS, i64_w, i32_w]
      rfl
     refine pure_ (i := 3) (N := some 27) (v := undef) (a' := ?_) #[Y,Y,Y,Y,U,U,U,U,U,U,U] rfl rfl (any_of HT_.out (by kernel_rfl)) (fun _ _ _ h => h) (Or.inr ⟨by rfl, rfl⟩) ?_ ?_
     rotate_left
     ·simp only [Act.put, sA, sZ, sS, i64_w, i32_w]
      rfl
     refine pure_ (i := 4) (N := some 28) (v := undef) (a' := ?_) #[Y,Y,Y,Y,Y,U,U,U,U,U,U] rfl rfl (any_of HT_.out (by kernel_rfl)) (fun _ _ _ h => h) (Or.inr ⟨by rfl, rfl⟩) ?_ ?_
     rotate_left
     ·simp only [Act.put, sA, sZ, sS, i64_w, i32_w]
      rfl
     refine pure_ (i := 5) (N := some 29) (v := undef) (a' := ?_) #[Y,Y,Y,Y,Y,Y,U,U,U,U,U] rfl rfl (any_of HT_.out (by kernel_rfl)) (fun _ _ _ h => h) (Or.inr ⟨by rfl, rfl⟩) ?_ ?_
     rotate_left
     ·simp only [Act.put, sA, sZ, sS, i64_w, i32_w]
      rfl
     refine pure_ (i := 6) (N := some 30) (v := undef) (a' := ?_) #[Y,Y,Y,Y,Y,Y,Y,U,U,U,U] rfl rfl (any_of HT_.out (by kernel_rfl)) (fun _ _ _ h => h) (Or.inr ⟨by rfl, rfl⟩) ?_ ?_
     rotate_left
     ·simp only [Act.put, sA, sZ, sS, i64_w, i32_w]
      rfl
     refine pure_ (i := 7) (N := some 31) (v := undef) (a' := ?_) #[Y,Y,Y,Y,Y,Y,Y,Y,U,U,U] rfl rfl (any_of HT_.out (by kernel_rfl)) (fun _ _ _ h => h) (Or.inr ⟨by rfl, rfl⟩) ?_ ?_
     rotate_left
     ·simp only [Act.put, sA, sZ, sS, i64_w, i32_w]
      rfl
     refine pure_ (i := 8) (N := some 32) (v := undef) (a' := ?_) #[Y,Y,Y,Y,Y,Y,Y,Y,Y,U,U] rfl rfl (any_of HT_.out (by kernel_rfl)) (fun _ _ _ h => h) (Or.inr ⟨by rfl, rfl⟩) ?_ ?_
     rotate_left
     ·simp only [Act.put, sA, sZ, sS, i64_w, i32_w]
      rfl
     refine pure_ (i := 9) (N := some 33) (v := undef) (a' := ?_) #[Y,Y,Y,Y,Y,Y,Y,Y,Y,Y,U] rfl rfl (any_of HT_.out (by kernel_rfl)) (fun _ _ _ h => h) (Or.inr ⟨by rfl, rfl⟩) ?_ ?_
     rotate_left
     ·simp only [Act.put, sA, sZ, sS, i64_w, i32_w]
      rfl
     refine pure_ (i := 10) (N := some 34) (v := ?_) (a' := ?_) #[Y,Y,Y,Y,Y,Y,Y,Y,Y,Y,Y] rfl rfl (any_of HT_.out (by kernel_rfl)) (fun _ _ _ h => h) (Or.inl ⟨by rfl, ?_⟩) ?_ ?_
     rotate_left
     ·intro w'
      go_simp
      with_reducible rfl
     rotate_left
     ·simp only [Act.put, sA, sZ, sS, i64_w, i32_w]
      rfl
     refine done_ (done_of HT_.out (by kernel_rfl)) ?_
     try go_wp2
     go_meet
     case rel => exact ⟨_, (false), xE, H', ⟨by have := HK1.out; first | omega | exact Nat.le_refl _⟩, ⟨kr HO_10.out⟩, ⟨by (with_reducible repeat (first | refine blk_drewN ?_ _ | refine blk_drew ?_ | refine blk_alloc ?_ _)); exact BK111.out⟩, ⟨bl HB.out⟩⟩
    replace c11 := Bool.eq_false_iff.mpr c11
    subst c11
    have H1 : (if 0 ≤ x12_1 then ((spec_l3Before.f ((rd_T90 l0 x12_1).f0) ((rd_T90 l0 x12_1).f1) ((rd_T90 l0 x12_1).f2) ((rd_T90 l0 x12_1).f3) a1 a2 a3 20).bind fun t116 => (spec_Hear.j1 k1 l0 a1 a2 x10_1 false x12_1 (!t116) a1 a2 a3 20)) else (none)) = some r := by rw [if_neg (show ¬ (false = true) by decide)] at H; exact H
    clear H
    have H := H1
    clear H1
    by_cases c13 : 0 ≤ x12_1
    case neg =>
     rw [if_neg c13] at H
     exact absurd H (by simp)
    rw [if_pos c13] at H
    have c13b0 : decide (0 ≤ x12_1) = true := decide_eq_true c13
    clear c13
    (first | rw [c13b0] | (simp only [i64_w, i32_w]; rw [c13b0]) | skip)
    replace H := Option.bind_eq_some_iff.mp H
    obtain ⟨t116, A140, H⟩ := H
    replace H : (spec_Hear.j1 k1 l0 a1 a2 x10_1 false x12_1 (!t116) a1 a2 a3 20) = some r := H
    have A14 := aM A140
    clear A140
    have H' := aM H
    clear H
    try go_wp2
    have n0_ := aM (Kd.R_drew HO_10.out)
    have n1_ := aM (blk_drew BK111.out)
    have n2_ := aM (below_drew1 HB.out)
    clear HO_10 BK111 HB
    have HO_10 := n0_
    have BK111 := n1_
    have HB := n2_
    clear n0_ n1_ n2_
    have p115 : 0 ≤ (x12_1 : Int) := of_decide_eq_true (by first | (with_reducible assumption) | assumption)
    have q115 : x12_1 < (l0.length : Int) := of_decide_eq_true (by first | (with_reducible assumption) | assumption)
    obtain ⟨ad115, e115, hx115_0, hx115_1, hx115_2, hx115_3⟩ := at_T90 HR0.out x12_1 p115 q115
    have hw115_3 := hx115_3
    have hw115_2 := hx115_2
    have hw115_1 := hx115_1
    have hw115_0 := hx115_0
    cases e115
    replace hx115_0 := (HB.out.cell (World.block_lt_of_cell? w _ hx115_0)).trans hx115_0
    replace hx115_1 := (HB.out.cell (World.block_lt_of_cell? w _ hx115_1)).trans hx115_1
    replace hx115_2 := (HB.out.cell (World.block_lt_of_cell? w _ hx115_2)).trans hx115_2
    replace hx115_3 := (HB.out.cell (World.block_lt_of_cell? w _ hx115_3)).trans hx115_3
    replace p115 := eq_true p115
    replace q115 := eq_true q115
    refine start_ (n := 11) (S := fun w' => w'.cell? ⟨gb111, 0, none⟩ = some (.int .i64 a1) ∧ w'.cell? ⟨gb111, 1, none⟩ = some (.int .i64 a2) ∧ w'.cell? ⟨gb111, 2, none⟩ = some (.int .i64 a3) ∧ w'.cell? ⟨gb111, 3, none⟩ = some (.int .i64 20) ∧ w'.cell? (ad115.add ((x12_1).toNat * 4)) = some (.int .i64 ((rd_T90 l0 x12_1).f0)) ∧ w'.cell? ⟨(ad115.add ((x12_1).toNat * 4)).block, (ad115.add ((x12_1).toNat * 4)).off + 1, none⟩ = some (.int .i64 ((rd_T90 l0 x12_1).f1)) ∧ w'.cell? ⟨(ad115.add ((x12_1).toNat * 4)).block, (ad115.add ((x12_1).toNat * 4)).off + 2, none⟩ = some (.int .i64 ((rd_T90 l0 x12_1).f2)) ∧ w'.cell? ⟨(ad115.add ((x12_1).toNat * 4)).block, (ad115.add ((x12_1).toNat * 4)).off + 3, none⟩ = some (.int .i64 ((rd_T90 l0 x12_1).f3))) (ds := []) #[U,U,U,U,U,U,U,U,U,U,U] (by kernel_rfl) rfl rfl ⟨cI BK111.out 0, cI BK111.out 1, cI BK111.out 2, cI BK111.out 3, ((HB.out.cell (World.block_lt_of_cell? w _ hw115_0)).trans hw115_0), ((HB.out.cell (World.block_lt_of_cell? w _ hw115_1)).trans hw115_1), ((HB.out.cell (World.block_lt_of_cell? w _ hw115_2)).trans hw115_2), ((HB.out.cell (World.block_lt_of_cell? w _ hw115_3)).trans hw115_3)⟩ (fun hHeld => ?_); refine with_tabW spec_Hear.tab7 spec_Hear.bits7 (fun HT_ HW_ => ?_)
    generalize wr.drew = w15 at HO_10 BK111 HB hx115_0 hx115_1 hx115_2 hx115_3 hHeld ⊢
    refine pure_ (i := 0) (N := some 24) (v := ?_) (a' := ?_) #[Y,U,U,U,U,U,U,U,U,U,U] rfl rfl (any_of HT_.out (by kernel_rfl)) (fun _ _ _ h => h) (Or.inl ⟨by rfl, ?_⟩) ?_ ?_
    rotate_left
    ·intro w'
     go_simp
     with_reducible rfl
    rotate_left
    ·simp only [Act.put, sA, sZ, sS, i64_w, i32_w]
     rfl
    refine pure_ (i := 1) (N := some 25) (v := ?_) (a' := ?_) #[Y,Y,U,U,U,U,U,U,U,U,U] rfl rfl (any_of HT_.out (by kernel_rfl)) (fun _ _ _ h => h) (Or.inl ⟨by rfl, ?_⟩) ?_ ?_
    rotate_left
    ·intro w'
     go_simp
     with_reducible rfl
    rotate_left
    ·simp only [Act.put, sA, sZ, sS, i64_w, i32_w]
     rfl
    refine pure_ (i := 2) (N := some 26) (v := ?_) (a' := ?_) #[Y,Y,Y,U,U,U,U,U,U,U,U] rfl rfl (any_of HT_.out (by kernel_rfl)) (fun _ _ _ h => h) (Or.inl ⟨by rfl, ?_⟩) ?_ ?_
    rotate_left
    ·intro w'
     go_simp
     with_reducible rfl
    rotate_left
    ·simp only [Act.put, sA, sZ, sS, i64_w, i32_w]
     rfl
    refine pure_ (i := 3) (N := some 27) (v := ?_) (a' := ?_) #[Y,Y,Y,Y,U,U,U,U,U,U,U] rfl rfl (any_of HT_.out (by kernel_rfl)) (fun _ _ _ h => h) (Or.inl ⟨by rfl, ?_⟩) ?_ ?_
    rotate_left
    ·intro w'
     go_simp
     with_reducible rfl
    rotate_left
    ·simp only [Act.put, sA, sZ, sS, i64_w, i32_w]
     rfl
    refine pure_ (i := 4) (N := some 28) (v := ?_) (a' := ?_) #[Y,Y,Y,Y,Y,U,U,U,U,U,U] rfl rfl (any_of HT_.out (by kernel_rfl)) (fun _ _ _ h => h) (Or.inl ⟨by rfl, ?_⟩) ?_ ?_
    rotate_left
    ·intro w'
     go_simp
     with_reducible rfl
    rotate_left
    ·simp only [Act.put, sA, sZ, sS, i64_w, i32_w]
     rfl
    refine pure_ (i := 5) (N := some 29) (v := ?_) (a' := ?_) #[Y,Y,Y,Y,Y,Y,U,U,U,U,U] rfl rfl (any_of HT_.out (by kernel_rfl)) (fun _ _ _ h => h) (Or.inl ⟨by rfl, ?_⟩) ?_ ?_
    rotate_left
    ·intro w'
     go_simp
     with_reducible rfl
    rotate_left
    ·simp only [Act.put, sA, sZ, sS, i64_w, i32_w]
     rfl
    refine take_ (i := 6) (N := some 30) (v := ?_) (a' := ?_) #[Y,Y,Y,Y,Y,Y,Y,U,U,U,U] rfl rfl (take_ofW HT_.out HW_.out (by kernel_rfl)) (fun _ _ _ h => h) (Or.inl ⟨by rfl, ?_⟩) hHeld ?_ ?_
    rotate_left
    ·rintro w' ⟨s0, s1, s2, s3, s4, s5, s6, s7⟩
     go_simp
     with_reducible rfl
    rotate_left
    ·simp only [Act.put, sA, sZ, sS, i64_w, i32_w]
     rfl
    refine take_ (i := 7) (N := some 31) (v := ?_) (a' := ?_) #[Y,Y,Y,Y,Y,Y,Y,Y,U,U,U] rfl rfl (take_ofW HT_.out HW_.out (by kernel_rfl)) (fun _ _ _ h => h) (Or.inl ⟨by rfl, ?_⟩) hHeld ?_ ?_
    rotate_left
    ·rintro w' ⟨s0, s1, s2, s3, s4, s5, s6, s7⟩
     go_simp
     with_reducible rfl
    rotate_left
    ·simp only [Act.put, sA, sZ, sS, i64_w, i32_w]
     rfl
    refine one_ (i := 8) (N := some 32) #[Y,Y,Y,Y,Y,Y,Y,Y,Y,U,U] rfl rfl (one_of HT_.out (by kernel_rfl)) (by decide) (fun K hK => ?_)
    refine goes_ Try.func72 (by kernel_rfl) rfl #[.agg #[.int .i64 ((rd_T90 l0 x12_1).f0), .int .i64 ((rd_T90 l0 x12_1).f1), .int .i64 ((rd_T90 l0 x12_1).f2), .int .i64 ((rd_T90 l0 x12_1).f3)], .agg #[.int .i64 a1, .int .i64 a2, .int .i64 a3, .int .i64 20]] (by rfl) rfl rfl xR ?_
    with_reducible refine (spec_l3Before.calls ((rd_T90 l0 x12_1).f0) ((rd_T90 l0 x12_1).f1) ((rd_T90 l0 x12_1).f2) ((rd_T90 l0 x12_1).f3) a1 a2 a3 20 t116 _ A14.out).mono ?_
    rintro e w16 ⟨rfl, hb⟩
    refine ⟨_, rfl, ?_⟩
    have n0_ := aM (kB (kr HO_10.out) hb)
    have n1_ := aM (bB (g := gb111) (o := .cells #[.int .i64 a1, .int .i64 a2, .int .i64 a3, .int .i64 20] 90 (0, 0)) (bk BK111.out) hb)
    have n2_ := aM (bS (bl HB.out) hb)
    clear HO_10 BK111 HB
    have HO_10 := n0_
    have BK111 := n1_
    have HB := n2_
    clear n0_ n1_ n2_
    (try clear hb)
    (try clear hb2)
    (try clear hk)
    (try clear hi)
    refine hK.out _ _ ⟨cI BK111.out 0, cI BK111.out 1, cI BK111.out 2, cI BK111.out 3, ((HB.out.cell (World.block_lt_of_cell? w _ hw115_0)).trans hw115_0), ((HB.out.cell (World.block_lt_of_cell? w _ hw115_1)).trans hw115_1), ((HB.out.cell (World.block_lt_of_cell? w _ hw115_2)).trans hw115_2), ((HB.out.cell (World.block_lt_of_cell? w _ hw115_3)).trans hw115_3)⟩ (fun hHeld => ?_)
    clear hK K
    refine norm_ (a' := ?_) ?_ ?_
    rotate_left
    ·show Act.put _ (some 32) _ = _
     simp only [Act.put, sA, sZ, sS, i64_w, i32_w]
     rfl
    refine pure_ (i := 9) (N := some 33) (v := ?_) (a' := ?_) #[Y,Y,Y,Y,Y,Y,Y,Y,Y,Y,U] rfl rfl (any_of HT_.out (by kernel_rfl)) (fun _ _ _ h => h) (Or.inl ⟨by rfl, ?_⟩) ?_ ?_
    rotate_left
    ·intro w'
     go_simp
     with_reducible rfl
    rotate_left
    ·simp only [Act.put, sA, sZ, sS, i64_w, i32_w]
     rfl
    refine pure_ (i := 10) (N := some 34) (v := ?_) (a' := ?_) #[Y,Y,Y,Y,Y,Y,Y,Y,Y,Y,Y] rfl rfl (any_of HT_.out (by kernel_rfl)) (fun _ _ _ h => h) (Or.inl ⟨by rfl, ?_⟩) ?_ ?_
    rotate_left
    ·intro w'
     go_simp
     with_reducible rfl
    rotate_left
    ·simp only [Act.put, sA, sZ, sS, i64_w, i32_w]
     rfl
    refine done_ (done_of HT_.out (by kernel_rfl)) ?_
    try go_wp2
    go_meet
    case rel => exact ⟨_, (!t116), xE, H', ⟨by have := HK1.out; first | omega | exact Nat.le_refl _⟩, ⟨kr HO_10.out⟩, ⟨by (with_reducible repeat (first | refine blk_drewN ?_ _ | refine blk_drew ?_ | refine blk_alloc ?_ _)); exact BK111.out⟩, ⟨bl HB.out⟩⟩
   case rest =>
    clear HC10
    try clear c1
    try clear p1
    try clear q1
    try clear hx1
    try clear c2
    try clear p2
    try clear c7
    try clear c9
    try clear c9b0
    try clear c11
    try clear p11
    try clear q11
    try clear hx11
    try clear c13
    try clear c13b0
    try clear hcz6_0
    try clear hcz6_1
    try clear hcz6_2
    try clear hcz6_3
    try clear hfz6_0
    try clear hfz6_1
    try clear hfz6_2
    try clear hfz6_3
    try clear hx115_0
    try clear hx115_1
    try clear hx115_2
    try clear hx115_3
    try clear p115
    try clear p2
    try clear q115
    obtain ⟨kq, x34_9, rfl, HA, HJ9, HO_10, BK111, HB⟩ := hcut
    cases kq with
    | zero => exact absurd HA.out (by simp [spec_Hear.j1])
    | succ kj9 =>
     have H := HA.out
     clear HA
     simp only [spec_Hear.j1] at H
     by_cases c17 : x34_9 = true
     case pos =>
      subst c17
      have H1 : (if x10_1.length < 4398046511104 then ((some (x10_1 ++ [(⟨a1, a2, a3, 20⟩ : S90)] : List (S90))).bind fun y117 => (if 0 ≤ x12_1 then (if x12_1 < (l0.length : Int) then (if ((rd_T90 l0 x12_1).f0) = a1 then (if ((rd_T90 l0 x12_1).f1) = a2 then (spec_Hear.l0 kj9 l0 a1 a2 y117 true (wrap64 (x12_1 + 1)) a1 a2 a3 20) else (if y117.length < 4398046511104 then (spec_Hear.l0 kj9 l0 a1 a2 (y117 ++ [(⟨(rd_T90 l0 x12_1).f0, (rd_T90 l0 x12_1).f1, (rd_T90 l0 x12_1).f2, (rd_T90 l0 x12_1).f3⟩ : S90)]) true (wrap64 (x12_1 + 1)) a1 a2 a3 20) else (none))) else (if y117.length < 4398046511104 then (spec_Hear.l0 kj9 l0 a1 a2 (y117 ++ [(⟨(rd_T90 l0 x12_1).f0, (rd_T90 l0 x12_1).f1, (rd_T90 l0 x12_1).f2, (rd_T90 l0 x12_1).f3⟩ : S90)]) true (wrap64 (x12_1 + 1)) a1 a2 a3 20) else (none))) else (none)) else (none))) else (none)) = some r := by rw [if_pos rfl] at H; exact H
      clear H
      have H := H1
      clear H1
      by_cases c18 : x10_1.length < 4398046511104
      case neg =>
       rw [if_neg c18] at H
       exact absurd H (by simp)
      rw [if_pos c18] at H
      have LMc18 := aM c18
      clear c18
      obtain ⟨y117, hy117⟩ : ∃ y_ : List (S90), y_ = (x10_1 ++ [(⟨a1, a2, a3, 20⟩ : S90)]) := ⟨_, rfl⟩
      replace H : (if 0 ≤ x12_1 then (if x12_1 < (l0.length : Int) then (if ((rd_T90 l0 x12_1).f0) = a1 then (if ((rd_T90 l0 x12_1).f1) = a2 then (spec_Hear.l0 kj9 l0 a1 a2 y117 true (wrap64 (x12_1 + 1)) a1 a2 a3 20) else (if y117.length < 4398046511104 then (spec_Hear.l0 kj9 l0 a1 a2 (y117 ++ [(⟨(rd_T90 l0 x12_1).f0, (rd_T90 l0 x12_1).f1, (rd_T90 l0 x12_1).f2, (rd_T90 l0 x12_1).f3⟩ : S90)]) true (wrap64 (x12_1 + 1)) a1 a2 a3 20) else (none))) else (if y117.length < 4398046511104 then (spec_Hear.l0 kj9 l0 a1 a2 (y117 ++ [(⟨(rd_T90 l0 x12_1).f0, (rd_T90 l0 x12_1).f1, (rd_T90 l0 x12_1).f2, (rd_T90 l0 x12_1).f3⟩ : S90)]) true (wrap64 (x12_1 + 1)) a1 a2 a3 20) else (none))) else (none)) else (none)) = some r := by first | (rw [hy117]; with_reducible exact H) | (have H2_ := (Option.bind_some _ _).symm.trans H; rw [hy117]; with_reducible exact H2_) | (have H2_ := (Option.bind_some _ _).symm.trans H; with_reducible exact H2_) | with_reducible exact H | (rw [hy117]; exact H) | exact H
      have Ny117 := aM hy117
      clear hy117
      by_cases c19 : 0 ≤ x12_1
      case neg =>
       rw [if_neg c19] at H
       exact absurd H (by simp)
      rw [if_pos c19] at H
      have c19b0 : decide (0 ≤ x12_1) = true := decide_eq_true c19
      clear c19
      by_cases c20 : x12_1 < (l0.length : Int)
      case neg =>
       rw [if_neg c20] at H
       exact absurd H (by simp)
      rw [if_pos c20] at H
      have c20b0 : decide (x12_1 < (l0.length : Int)) = true := decide_eq_true c20
      clear c20
      by_cases c21 : ((rd_T90 l0 x12_1).f0) = a1
      case neg =>
       rw [if_neg c21] at H
       have c21b0 : (((rd_T90 l0 x12_1).f0) == a1) = false := beq_eq_false_iff_ne.mpr c21
       have c21b1 : (((rd_T90 l0 x12_1).f0) != a1) = true := bne_iff_ne.mpr c21
       by_cases c29 : y117.length < 4398046511104
       case neg =>
        rw [if_neg c29] at H
        exact absurd H (by simp)
       rw [if_pos c29] at H
       have LMc29 := aM c29
       clear c29
       obtain ⟨y127, hy127⟩ : ∃ y_ : List (S90), y_ = (y117 ++ [(⟨(rd_T90 l0 x12_1).f0, (rd_T90 l0 x12_1).f1, (rd_T90 l0 x12_1).f2, (rd_T90 l0 x12_1).f3⟩ : S90)]) := ⟨_, rfl⟩
       replace H : (spec_Hear.l0 kj9 l0 a1 a2 y127 true (wrap64 (x12_1 + 1)) a1 a2 a3 20) = some r := by first | (rw [hy127]; with_reducible exact H) | (have H2_ := (Option.bind_some _ _).symm.trans H; rw [hy127]; with_reducible exact H2_) | (have H2_ := (Option.bind_some _ _).symm.trans H; with_reducible exact H2_) | with_reducible exact H | (rw [hy127]; exact H) | exact H
       have Ny127 := aM hy127
       clear hy127
       have H' := aM H
       clear H
       have hcz30_0 := cI BK111.out 0
       have hcz30_1 := cI BK111.out 1
       have hcz30_2 := cI BK111.out 2
       have hcz30_3 := cI BK111.out 3
       have hfz30_0 := bF BK111.out 0
       have hfz30_1 := bF BK111.out 1
       have hfz30_2 := bF BK111.out 2
       have hfz30_3 := bF BK111.out 3
       go_wp2_with (first | ((with_reducible refine gate_builtin (b := .append) (xs := #[.tmp 35, .tmp 37]) rfl ?_); at_builtin; refine Kd.R_append k90 (w0 := w) w.heap.size rfl (.tmp 35) (.tmp 37) 38 90 (.agg #[(.int .i64 0), (.int .i64 0), (.int .i64 0), (.int .i64 0)]) 32 rfl Try.underlying38 info90 rfl (by decide) (by omega) u10 x10_1 (⟨a1, a2, a3, 20⟩ : S90) [.int .i64 a1, .int .i64 a2, .int .i64 a3, .int .i64 20] (fun k_ => k_ ≠ gb111) (fun _ => False) rfl rfl ?aP (fun _ hk => hk.elim) ?aF ?aO ?aB ?aS ?aL ?_; (case aP => exact k90_mkM _ _ _ (⟨a1, a2, a3, 20⟩ : S90)); (case aB => exact (bl HB.out)); (case aF => exact (fun k_ hk => Kd.freshB (g := gb111) (o := .cells #[.int .i64 a1, .int .i64 a2, .int .i64 a3, .int .i64 20] 90 (0, 0)) (bk BK111.out) k_ hk)); (case aO => exact (kr HO_10.out)); (case aS => exact (below_size (bl HB.out))); (case aL => have := LMc18.out; omega); intro v118 w31 ho hb hg hat; rw [← Ny117.out] at ho; have n0_ := aM (blk_grown (g := gb111) (o := .cells #[.int .i64 a1, .int .i64 a2, .int .i64 a3, .int .i64 20] 90 (0, 0)) (bk BK111.out) hg (Kd.R_away HO_10.out (fun _ hk => hk))); have n1_ := aM (hb); have n2_ := aM (ho); clear BK111 HB HO_10; have BK111 := n0_; have HB := n1_; have HO119 := n2_; clear n0_ n1_ n2_; clear ho hb hg hat; have p120 : 0 ≤ (x12_1 : Int) := of_decide_eq_true (by first | (with_reducible assumption) | assumption); have q120 : x12_1 < (l0.length : Int) := of_decide_eq_true (by first | (with_reducible assumption) | assumption); obtain ⟨ad120, e120, hx120_0, hx120_1, hx120_2, hx120_3⟩ := at_T90 HR0.out x12_1 p120 q120; cases e120; replace hx120_0 := (HB.out.cell (World.block_lt_of_cell? w _ hx120_0)).trans hx120_0; replace hx120_1 := (HB.out.cell (World.block_lt_of_cell? w _ hx120_1)).trans hx120_1; replace hx120_2 := (HB.out.cell (World.block_lt_of_cell? w _ hx120_2)).trans hx120_2; replace hx120_3 := (HB.out.cell (World.block_lt_of_cell? w _ hx120_3)).trans hx120_3; replace p120 := eq_true p120; replace q120 := eq_true q120; have p126 : 0 ≤ (x12_1 : Int) := of_decide_eq_true (by first | (with_reducible assumption) | assumption); have q126 : x12_1 < (l0.length : Int) := of_decide_eq_true (by first | (with_reducible assumption) | assumption); obtain ⟨ad126, e126, hx126_0, hx126_1, hx126_2, hx126_3⟩ := at_T90 HR0.out x12_1 p126 q126; obtain rfl : ad120 = ad126 := (by injection e126); replace hx126_0 := (HB.out.cell (World.block_lt_of_cell? w _ hx126_0)).trans hx126_0; replace hx126_1 := (HB.out.cell (World.block_lt_of_cell? w _ hx126_1)).trans hx126_1; replace hx126_2 := (HB.out.cell (World.block_lt_of_cell? w _ hx126_2)).trans hx126_2; replace hx126_3 := (HB.out.cell (World.block_lt_of_cell? w _ hx126_3)).trans hx126_3; replace p126 := eq_true p126; replace q126 := eq_true q126) | ((with_reducible refine gate_builtin (b := .append) (xs := #[.tmp 55, .tmp 60]) rfl ?_); at_builtin; refine Kd.R_append k90 (w0 := w) w.heap.size rfl (.tmp 55) (.tmp 60) 38 90 (.agg #[(.int .i64 0), (.int .i64 0), (.int .i64 0), (.int .i64 0)]) 32 rfl Try.underlying38 info90 rfl (by decide) (by omega) v118 y117 (⟨(rd_T90 l0 x12_1).f0, (rd_T90 l0 x12_1).f1, (rd_T90 l0 x12_1).f2, (rd_T90 l0 x12_1).f3⟩ : S90) [.int .i64 ((rd_T90 l0 x12_1).f0), .int .i64 ((rd_T90 l0 x12_1).f1), .int .i64 ((rd_T90 l0 x12_1).f2), .int .i64 ((rd_T90 l0 x12_1).f3)] (fun k_ => k_ ≠ gb111) (fun _ => False) rfl rfl ?aP (fun _ hk => hk.elim) ?aF ?aO ?aB ?aS ?aL ?_; (case aP => exact k90_mkM _ _ _ (⟨(rd_T90 l0 x12_1).f0, (rd_T90 l0 x12_1).f1, (rd_T90 l0 x12_1).f2, (rd_T90 l0 x12_1).f3⟩ : S90)); (case aB => exact (bl HB.out)); (case aF => exact (fun k_ hk => Kd.freshB (g := gb111) (o := .cells #[.int .i64 a1, .int .i64 a2, .int .i64 a3, .int .i64 20] 90 (0, 0)) (bk BK111.out) k_ hk)); (case aO => exact (kr HO119.out)); (case aS => exact (below_size (bl HB.out))); (case aL => have := LMc29.out; omega); intro v128 w32 ho hb hg hat; rw [← Ny127.out] at ho; have n0_ := aM (blk_grown (g := gb111) (o := .cells #[.int .i64 a1, .int .i64 a2, .int .i64 a3, .int .i64 20] 90 (0, 0)) (bk BK111.out) hg (Kd.R_away HO119.out (fun _ hk => hk))); have n1_ := aM (hb); have n2_ := aM (ho); clear BK111 HB HO119; have BK111 := n0_; have HB := n1_; have HO129 := n2_; clear n0_ n1_ n2_; clear ho hb hg hat))
       go_roundg kj9
       case measure => have := HK1.out; have := HJ9.out; omega
       case rel => exact ⟨(y127), (true), (wrap64 (x12_1 + 1)), xE, xE, H', ⟨by have := HK1.out; have := HJ9.out; omega⟩, ⟨kr HO129.out⟩, ⟨by (with_reducible repeat (first | refine blk_drewN ?_ _ | refine blk_drew ?_ | refine blk_alloc ?_ _)); exact BK111.out⟩, ⟨bl HB.out⟩⟩
      rw [if_pos c21] at H
      have c21b0 : (((rd_T90 l0 x12_1).f0) == a1) = true := beq_iff_eq.mpr c21
      have c21b1 : (((rd_T90 l0 x12_1).f0) != a1) = false := bne_eq_false_iff_eq.mpr c21
      clear c21
      by_cases c22 : ((rd_T90 l0 x12_1).f1) = a2
      case pos =>
       rw [if_pos c22] at H
       have c22b0 : (((rd_T90 l0 x12_1).f1) == a2) = true := beq_iff_eq.mpr c22
       have c22b1 : (((rd_T90 l0 x12_1).f1) != a2) = false := bne_eq_false_iff_eq.mpr c22
       clear c22
       have H' := aM H
       clear H
       have hcz23_0 := cI BK111.out 0
       have hcz23_1 := cI BK111.out 1
       have hcz23_2 := cI BK111.out 2
       have hcz23_3 := cI BK111.out 3
       have hfz23_0 := bF BK111.out 0
       have hfz23_1 := bF BK111.out 1
       have hfz23_2 := bF BK111.out 2
       have hfz23_3 := bF BK111.out 3
       go_wp2_with (first | ((with_reducible refine gate_builtin (b := .append) (xs := #[.tmp 35, .tmp 37]) rfl ?_); at_builtin; refine Kd.R_append k90 (w0 := w) w.heap.size rfl (.tmp 35) (.tmp 37) 38 90 (.agg #[(.int .i64 0), (.int .i64 0), (.int .i64 0), (.int .i64 0)]) 32 rfl Try.underlying38 info90 rfl (by decide) (by omega) u10 x10_1 (⟨a1, a2, a3, 20⟩ : S90) [.int .i64 a1, .int .i64 a2, .int .i64 a3, .int .i64 20] (fun k_ => k_ ≠ gb111) (fun _ => False) rfl rfl ?aP (fun _ hk => hk.elim) ?aF ?aO ?aB ?aS ?aL ?_; (case aP => exact k90_mkM _ _ _ (⟨a1, a2, a3, 20⟩ : S90)); (case aB => exact (bl HB.out)); (case aF => exact (fun k_ hk => Kd.freshB (g := gb111) (o := .cells #[.int .i64 a1, .int .i64 a2, .int .i64 a3, .int .i64 20] 90 (0, 0)) (bk BK111.out) k_ hk)); (case aO => exact (kr HO_10.out)); (case aS => exact (below_size (bl HB.out))); (case aL => have := LMc18.out; omega); intro v118 w24 ho hb hg hat; rw [← Ny117.out] at ho; have n0_ := aM (blk_grown (g := gb111) (o := .cells #[.int .i64 a1, .int .i64 a2, .int .i64 a3, .int .i64 20] 90 (0, 0)) (bk BK111.out) hg (Kd.R_away HO_10.out (fun _ hk => hk))); have n1_ := aM (hb); have n2_ := aM (ho); clear BK111 HB HO_10; have BK111 := n0_; have HB := n1_; have HO119 := n2_; clear n0_ n1_ n2_; clear ho hb hg hat; have p120 : 0 ≤ (x12_1 : Int) := of_decide_eq_true (by first | (with_reducible assumption) | assumption); have q120 : x12_1 < (l0.length : Int) := of_decide_eq_true (by first | (with_reducible assumption) | assumption); obtain ⟨ad120, e120, hx120_0, hx120_1, hx120_2, hx120_3⟩ := at_T90 HR0.out x12_1 p120 q120; cases e120; replace hx120_0 := (HB.out.cell (World.block_lt_of_cell? w _ hx120_0)).trans hx120_0; replace hx120_1 := (HB.out.cell (World.block_lt_of_cell? w _ hx120_1)).trans hx120_1; replace hx120_2 := (HB.out.cell (World.block_lt_of_cell? w _ hx120_2)).trans hx120_2; replace hx120_3 := (HB.out.cell (World.block_lt_of_cell? w _ hx120_3)).trans hx120_3; replace p120 := eq_true p120; replace q120 := eq_true q120; have p121 : 0 ≤ (x12_1 : Int) := of_decide_eq_true (by first | (with_reducible assumption) | assumption); have q121 : x12_1 < (l0.length : Int) := of_decide_eq_true (by first | (with_reducible assumption) | assumption); obtain ⟨ad121, e121, hx121_0, hx121_1, hx121_2, hx121_3⟩ := at_T90 HR0.out x12_1 p121 q121; obtain rfl : ad120 = ad121 := (by injection e121); replace hx121_0 := (HB.out.cell (World.block_lt_of_cell? w _ hx121_0)).trans hx121_0; replace hx121_1 := (HB.out.cell (World.block_lt_of_cell? w _ hx121_1)).trans hx121_1; replace hx121_2 := (HB.out.cell (World.block_lt_of_cell? w _ hx121_2)).trans hx121_2; replace hx121_3 := (HB.out.cell (World.block_lt_of_cell? w _ hx121_3)).trans hx121_3; replace p121 := eq_true p121; replace q121 := eq_true q121))
       go_roundg kj9
       case measure => have := HK1.out; have := HJ9.out; omega
       case rel => exact ⟨(y117), (true), (wrap64 (x12_1 + 1)), xE, xE, H', ⟨by have := HK1.out; have := HJ9.out; omega⟩, ⟨kr HO119.out⟩, ⟨by (with_reducible repeat (first | refine blk_drewN ?_ _ | refine blk_drew ?_ | refine blk_alloc ?_ _)); exact BK111.out⟩, ⟨bl HB.out⟩⟩
      rw [if_neg c22] at H
      have c22b0 : (((rd_T90 l0 x12_1).f1) == a2) = false := beq_eq_false_iff_ne.mpr c22
      have c22b1 : (((rd_T90 l0 x12_1).f1) != a2) = true := bne_iff_ne.mpr c22
      by_cases c25 : y117.length < 4398046511104
      case neg =>
       rw [if_neg c25] at H
       exact absurd H (by simp)
      rw [if_pos c25] at H
      have LMc25 := aM c25
      clear c25
      obtain ⟨y123, hy123⟩ : ∃ y_ : List (S90), y_ = (y117 ++ [(⟨(rd_T90 l0 x12_1).f0, (rd_T90 l0 x12_1).f1, (rd_T90 l0 x12_1).f2, (rd_T90 l0 x12_1).f3⟩ : S90)]) := ⟨_, rfl⟩
      replace H : (spec_Hear.l0 kj9 l0 a1 a2 y123 true (wrap64 (x12_1 + 1)) a1 a2 a3 20) = some r := by first | (rw [hy123]; with_reducible exact H) | (have H2_ := (Option.bind_some _ _).symm.trans H; rw [hy123]; with_reducible exact H2_) | (have H2_ := (Option.bind_some _ _).symm.trans H; with_reducible exact H2_) | with_reducible exact H | (rw [hy123]; exact H) | exact H
      have Ny123 := aM hy123
      clear hy123
      have H' := aM H
      clear H
      have hcz26_0 := cI BK111.out 0
      have hcz26_1 := cI BK111.out 1
      have hcz26_2 := cI BK111.out 2
      have hcz26_3 := cI BK111.out 3
      have hfz26_0 := bF BK111.out 0
      have hfz26_1 := bF BK111.out 1
      have hfz26_2 := bF BK111.out 2
      have hfz26_3 := bF BK111.out 3
      go_wp2_with (first | ((with_reducible refine gate_builtin (b := .append) (xs := #[.tmp 35, .tmp 37]) rfl ?_); at_builtin; refine Kd.R_append k90 (w0 := w) w.heap.size rfl (.tmp 35) (.tmp 37) 38 90 (.agg #[(.int .i64 0), (.int .i64 0), (.int .i64 0), (.int .i64 0)]) 32 rfl Try.underlying38 info90 rfl (by decide) (by omega) u10 x10_1 (⟨a1, a2, a3, 20⟩ : S90) [.int .i64 a1, .int .i64 a2, .int .i64 a3, .int .i64 20] (fun k_ => k_ ≠ gb111) (fun _ => False) rfl rfl ?aP (fun _ hk => hk.elim) ?aF ?aO ?aB ?aS ?aL ?_; (case aP => exact k90_mkM _ _ _ (⟨a1, a2, a3, 20⟩ : S90)); (case aB => exact (bl HB.out)); (case aF => exact (fun k_ hk => Kd.freshB (g := gb111) (o := .cells #[.int .i64 a1, .int .i64 a2, .int .i64 a3, .int .i64 20] 90 (0, 0)) (bk BK111.out) k_ hk)); (case aO => exact (kr HO_10.out)); (case aS => exact (below_size (bl HB.out))); (case aL => have := LMc18.out; omega); intro v118 w27 ho hb hg hat; rw [← Ny117.out] at ho; have n0_ := aM (blk_grown (g := gb111) (o := .cells #[.int .i64 a1, .int .i64 a2, .int .i64 a3, .int .i64 20] 90 (0, 0)) (bk BK111.out) hg (Kd.R_away HO_10.out (fun _ hk => hk))); have n1_ := aM (hb); have n2_ := aM (ho); clear BK111 HB HO_10; have BK111 := n0_; have HB := n1_; have HO119 := n2_; clear n0_ n1_ n2_; clear ho hb hg hat; have p120 : 0 ≤ (x12_1 : Int) := of_decide_eq_true (by first | (with_reducible assumption) | assumption); have q120 : x12_1 < (l0.length : Int) := of_decide_eq_true (by first | (with_reducible assumption) | assumption); obtain ⟨ad120, e120, hx120_0, hx120_1, hx120_2, hx120_3⟩ := at_T90 HR0.out x12_1 p120 q120; cases e120; replace hx120_0 := (HB.out.cell (World.block_lt_of_cell? w _ hx120_0)).trans hx120_0; replace hx120_1 := (HB.out.cell (World.block_lt_of_cell? w _ hx120_1)).trans hx120_1; replace hx120_2 := (HB.out.cell (World.block_lt_of_cell? w _ hx120_2)).trans hx120_2; replace hx120_3 := (HB.out.cell (World.block_lt_of_cell? w _ hx120_3)).trans hx120_3; replace p120 := eq_true p120; replace q120 := eq_true q120; have p121 : 0 ≤ (x12_1 : Int) := of_decide_eq_true (by first | (with_reducible assumption) | assumption); have q121 : x12_1 < (l0.length : Int) := of_decide_eq_true (by first | (with_reducible assumption) | assumption); obtain ⟨ad121, e121, hx121_0, hx121_1, hx121_2, hx121_3⟩ := at_T90 HR0.out x12_1 p121 q121; obtain rfl : ad120 = ad121 := (by injection e121); replace hx121_0 := (HB.out.cell (World.block_lt_of_cell? w _ hx121_0)).trans hx121_0; replace hx121_1 := (HB.out.cell (World.block_lt_of_cell? w _ hx121_1)).trans hx121_1; replace hx121_2 := (HB.out.cell (World.block_lt_of_cell? w _ hx121_2)).trans hx121_2; replace hx121_3 := (HB.out.cell (World.block_lt_of_cell? w _ hx121_3)).trans hx121_3; replace p121 := eq_true p121; replace q121 := eq_true q121; have p122 : 0 ≤ (x12_1 : Int) := of_decide_eq_true (by first | (with_reducible assumption) | assumption); have q122 : x12_1 < (l0.length : Int) := of_decide_eq_true (by first | (with_reducible assumption) | assumption); obtain ⟨ad122, e122, hx122_0, hx122_1, hx122_2, hx122_3⟩ := at_T90 HR0.out x12_1 p122 q122; obtain rfl : ad120 = ad122 := (by injection e122); replace hx122_0 := (HB.out.cell (World.block_lt_of_cell? w _ hx122_0)).trans hx122_0; replace hx122_1 := (HB.out.cell (World.block_lt_of_cell? w _ hx122_1)).trans hx122_1; replace hx122_2 := (HB.out.cell (World.block_lt_of_cell? w _ hx122_2)).trans hx122_2; replace hx122_3 := (HB.out.cell (World.block_lt_of_cell? w _ hx122_3)).trans hx122_3; replace p122 := eq_true p122; replace q122 := eq_true q122) | ((with_reducible refine gate_builtin (b := .append) (xs := #[.tmp 55, .tmp 60]) rfl ?_); at_builtin; refine Kd.R_append k90 (w0 := w) w.heap.size rfl (.tmp 55) (.tmp 60) 38 90 (.agg #[(.int .i64 0), (.int .i64 0), (.int .i64 0), (.int .i64 0)]) 32 rfl Try.underlying38 info90 rfl (by decide) (by omega) v118 y117 (⟨(rd_T90 l0 x12_1).f0, (rd_T90 l0 x12_1).f1, (rd_T90 l0 x12_1).f2, (rd_T90 l0 x12_1).f3⟩ : S90) [.int .i64 ((rd_T90 l0 x12_1).f0), .int .i64 ((rd_T90 l0 x12_1).f1), .int .i64 ((rd_T90 l0 x12_1).f2), .int .i64 ((rd_T90 l0 x12_1).f3)] (fun k_ => k_ ≠ gb111) (fun _ => False) rfl rfl ?aP (fun _ hk => hk.elim) ?aF ?aO ?aB ?aS ?aL ?_; (case aP => exact k90_mkM _ _ _ (⟨(rd_T90 l0 x12_1).f0, (rd_T90 l0 x12_1).f1, (rd_T90 l0 x12_1).f2, (rd_T90 l0 x12_1).f3⟩ : S90)); (case aB => exact (bl HB.out)); (case aF => exact (fun k_ hk => Kd.freshB (g := gb111) (o := .cells #[.int .i64 a1, .int .i64 a2, .int .i64 a3, .int .i64 20] 90 (0, 0)) (bk BK111.out) k_ hk)); (case aO => exact (kr HO119.out)); (case aS => exact (below_size (bl HB.out))); (case aL => have := LMc25.out; omega); intro v124 w28 ho hb hg hat; rw [← Ny123.out] at ho; have n0_ := aM (blk_grown (g := gb111) (o := .cells #[.int .i64 a1, .int .i64 a2, .int .i64 a3, .int .i64 20] 90 (0, 0)) (bk BK111.out) hg (Kd.R_away HO119.out (fun _ hk => hk))); have n1_ := aM (hb); have n2_ := aM (ho); clear BK111 HB HO119; have BK111 := n0_; have HB := n1_; have HO125 := n2_; clear n0_ n1_ n2_; clear ho hb hg hat))
      go_roundg kj9
      case measure => have := HK1.out; have := HJ9.out; omega
      case rel => exact ⟨(y123), (true), (wrap64 (x12_1 + 1)), xE, xE, H', ⟨by have := HK1.out; have := HJ9.out; omega⟩, ⟨kr HO125.out⟩, ⟨by (with_reducible repeat (first | refine blk_drewN ?_ _ | refine blk_drew ?_ | refine blk_alloc ?_ _)); exact BK111.out⟩, ⟨bl HB.out⟩⟩
     replace c17 := Bool.eq_false_iff.mpr c17
     subst c17
     have H1 : (if 0 ≤ x12_1 then (if x12_1 < (l0.length : Int) then (if ((rd_T90 l0 x12_1).f0) = a1 then (if ((rd_T90 l0 x12_1).f1) = a2 then (spec_Hear.l0 kj9 l0 a1 a2 x10_1 x11_1 (wrap64 (x12_1 + 1)) a1 a2 a3 20) else (if x10_1.length < 4398046511104 then (spec_Hear.l0 kj9 l0 a1 a2 (x10_1 ++ [(⟨(rd_T90 l0 x12_1).f0, (rd_T90 l0 x12_1).f1, (rd_T90 l0 x12_1).f2, (rd_T90 l0 x12_1).f3⟩ : S90)]) x11_1 (wrap64 (x12_1 + 1)) a1 a2 a3 20) else (none))) else (if x10_1.length < 4398046511104 then (spec_Hear.l0 kj9 l0 a1 a2 (x10_1 ++ [(⟨(rd_T90 l0 x12_1).f0, (rd_T90 l0 x12_1).f1, (rd_T90 l0 x12_1).f2, (rd_T90 l0 x12_1).f3⟩ : S90)]) x11_1 (wrap64 (x12_1 + 1)) a1 a2 a3 20) else (none))) else (none)) else (none)) = some r := by rw [if_neg (show ¬ (false = true) by decide)] at H; exact H
     clear H
     have H := H1
     clear H1
     by_cases c33 : 0 ≤ x12_1
     case neg =>
      rw [if_neg c33] at H
      exact absurd H (by simp)
     rw [if_pos c33] at H
     have c33b0 : decide (0 ≤ x12_1) = true := decide_eq_true c33
     clear c33
     by_cases c34 : x12_1 < (l0.length : Int)
     case neg =>
      rw [if_neg c34] at H
      exact absurd H (by simp)
     rw [if_pos c34] at H
     have c34b0 : decide (x12_1 < (l0.length : Int)) = true := decide_eq_true c34
     clear c34
     by_cases c35 : ((rd_T90 l0 x12_1).f0) = a1
     case neg =>
      rw [if_neg c35] at H
      have c35b0 : (((rd_T90 l0 x12_1).f0) == a1) = false := beq_eq_false_iff_ne.mpr c35
      have c35b1 : (((rd_T90 l0 x12_1).f0) != a1) = true := bne_iff_ne.mpr c35
      by_cases c39 : x10_1.length < 4398046511104
      case neg =>
       rw [if_neg c39] at H
       exact absurd H (by simp)
      rw [if_pos c39] at H
      have LMc39 := aM c39
      clear c39
      obtain ⟨y137, hy137⟩ : ∃ y_ : List (S90), y_ = (x10_1 ++ [(⟨(rd_T90 l0 x12_1).f0, (rd_T90 l0 x12_1).f1, (rd_T90 l0 x12_1).f2, (rd_T90 l0 x12_1).f3⟩ : S90)]) := ⟨_, rfl⟩
      replace H : (spec_Hear.l0 kj9 l0 a1 a2 y137 x11_1 (wrap64 (x12_1 + 1)) a1 a2 a3 20) = some r := by first | (rw [hy137]; with_reducible exact H) | (have H2_ := (Option.bind_some _ _).symm.trans H; rw [hy137]; with_reducible exact H2_) | (have H2_ := (Option.bind_some _ _).symm.trans H; with_reducible exact H2_) | with_reducible exact H | (rw [hy137]; exact H) | exact H
      have Ny137 := aM hy137
      clear hy137
      have H' := aM H
      clear H
      have p130 : 0 ≤ (x12_1 : Int) := of_decide_eq_true (by first | (with_reducible assumption) | assumption)
      have q130 : x12_1 < (l0.length : Int) := of_decide_eq_true (by first | (with_reducible assumption) | assumption)
      obtain ⟨ad130, e130, hx130_0, hx130_1, hx130_2, hx130_3⟩ := at_T90 HR0.out x12_1 p130 q130
      cases e130
      replace hx130_0 := (HB.out.cell (World.block_lt_of_cell? w _ hx130_0)).trans hx130_0
      replace hx130_1 := (HB.out.cell (World.block_lt_of_cell? w _ hx130_1)).trans hx130_1
      replace hx130_2 := (HB.out.cell (World.block_lt_of_cell? w _ hx130_2)).trans hx130_2
      replace hx130_3 := (HB.out.cell (World.block_lt_of_cell? w _ hx130_3)).trans hx130_3
      replace p130 := eq_true p130
      replace q130 := eq_true q130
      have p136 : 0 ≤ (x12_1 : Int) := of_decide_eq_true (by first | (with_reducible assumption) | assumption)
      have q136 : x12_1 < (l0.length : Int) := of_decide_eq_true (by first | (with_reducible assumption) | assumption)
      obtain ⟨ad136, e136, hx136_0, hx136_1, hx136_2, hx136_3⟩ := at_T90 HR0.out x12_1 p136 q136
      obtain rfl : ad130 = ad136 := (by injection e136)
      replace hx136_0 := (HB.out.cell (World.block_lt_of_cell? w _ hx136_0)).trans hx136_0
      replace hx136_1 := (HB.out.cell (World.block_lt_of_cell? w _ hx136_1)).trans hx136_1
      replace hx136_2 := (HB.out.cell (World.block_lt_of_cell? w _ hx136_2)).trans hx136_2
      replace hx136_3 := (HB.out.cell (World.block_lt_of_cell? w _ hx136_3)).trans hx136_3
      replace p136 := eq_true p136
      replace q136 := eq_true q136
      go_wp2_with (first | ((with_reducible refine gate_builtin (b := .append) (xs := #[.tmp 55, .tmp 60]) rfl ?_); at_builtin; refine Kd.R_append k90 (w0 := w) w.heap.size rfl (.tmp 55) (.tmp 60) 38 90 (.agg #[(.int .i64 0), (.int .i64 0), (.int .i64 0), (.int .i64 0)]) 32 rfl Try.underlying38 info90 rfl (by decide) (by omega) u10 x10_1 (⟨(rd_T90 l0 x12_1).f0, (rd_T90 l0 x12_1).f1, (rd_T90 l0 x12_1).f2, (rd_T90 l0 x12_1).f3⟩ : S90) [.int .i64 ((rd_T90 l0 x12_1).f0), .int .i64 ((rd_T90 l0 x12_1).f1), .int .i64 ((rd_T90 l0 x12_1).f2), .int .i64 ((rd_T90 l0 x12_1).f3)] (fun k_ => k_ ≠ gb111) (fun _ => False) rfl rfl ?aP (fun _ hk => hk.elim) ?aF ?aO ?aB ?aS ?aL ?_; (case aP => exact k90_mkM _ _ _ (⟨(rd_T90 l0 x12_1).f0, (rd_T90 l0 x12_1).f1, (rd_T90 l0 x12_1).f2, (rd_T90 l0 x12_1).f3⟩ : S90)); (case aB => exact (bl HB.out)); (case aF => exact (fun k_ hk => Kd.freshB (g := gb111) (o := .cells #[.int .i64 a1, .int .i64 a2, .int .i64 a3, .int .i64 20] 90 (0, 0)) (bk BK111.out) k_ hk)); (case aO => exact (kr HO_10.out)); (case aS => exact (below_size (bl HB.out))); (case aL => have := LMc39.out; omega); intro v138 w40 ho hb hg hat; rw [← Ny137.out] at ho; have n0_ := aM (blk_grown (g := gb111) (o := .cells #[.int .i64 a1, .int .i64 a2, .int .i64 a3, .int .i64 20] 90 (0, 0)) (bk BK111.out) hg (Kd.R_away HO_10.out (fun _ hk => hk))); have n1_ := aM (hb); have n2_ := aM (ho); clear BK111 HB HO_10; have BK111 := n0_; have HB := n1_; have HO139 := n2_; clear n0_ n1_ n2_; clear ho hb hg hat))
      go_roundg kj9
      case measure => have := HK1.out; have := HJ9.out; omega
      case rel => exact ⟨(y137), (x11_1), (wrap64 (x12_1 + 1)), xE, xE, H', ⟨by have := HK1.out; have := HJ9.out; omega⟩, ⟨kr HO139.out⟩, ⟨by (with_reducible repeat (first | refine blk_drewN ?_ _ | refine blk_drew ?_ | refine blk_alloc ?_ _)); exact BK111.out⟩, ⟨bl HB.out⟩⟩
     rw [if_pos c35] at H
     have c35b0 : (((rd_T90 l0 x12_1).f0) == a1) = true := beq_iff_eq.mpr c35
     have c35b1 : (((rd_T90 l0 x12_1).f0) != a1) = false := bne_eq_false_iff_eq.mpr c35
     clear c35
     by_cases c36 : ((rd_T90 l0 x12_1).f1) = a2
     case pos =>
      rw [if_pos c36] at H
      have c36b0 : (((rd_T90 l0 x12_1).f1) == a2) = true := beq_iff_eq.mpr c36
      have c36b1 : (((rd_T90 l0 x12_1).f1) != a2) = false := bne_eq_false_iff_eq.mpr c36
      clear c36
      have H' := aM H
      clear H
      have p130 : 0 ≤ (x12_1 : Int) := of_decide_eq_true (by first | (with_reducible assumption) | assumption)
      have q130 : x12_1 < (l0.length : Int) := of_decide_eq_true (by first | (with_reducible assumption) | assumption)
      obtain ⟨ad130, e130, hx130_0, hx130_1, hx130_2, hx130_3⟩ := at_T90 HR0.out x12_1 p130 q130
      cases e130
      replace hx130_0 := (HB.out.cell (World.block_lt_of_cell? w _ hx130_0)).trans hx130_0
      replace hx130_1 := (HB.out.cell (World.block_lt_of_cell? w _ hx130_1)).trans hx130_1
      replace hx130_2 := (HB.out.cell (World.block_lt_of_cell? w _ hx130_2)).trans hx130_2
      replace hx130_3 := (HB.out.cell (World.block_lt_of_cell? w _ hx130_3)).trans hx130_3
      replace p130 := eq_true p130
      replace q130 := eq_true q130
      have p131 : 0 ≤ (x12_1 : Int) := of_decide_eq_true (by first | (with_reducible assumption) | assumption)
      have q131 : x12_1 < (l0.length : Int) := of_decide_eq_true (by first | (with_reducible assumption) | assumption)
      obtain ⟨ad131, e131, hx131_0, hx131_1, hx131_2, hx131_3⟩ := at_T90 HR0.out x12_1 p131 q131
      obtain rfl : ad130 = ad131 := (by injection e131)
      replace hx131_0 := (HB.out.cell (World.block_lt_of_cell? w _ hx131_0)).trans hx131_0
      replace hx131_1 := (HB.out.cell (World.block_lt_of_cell? w _ hx131_1)).trans hx131_1
      replace hx131_2 := (HB.out.cell (World.block_lt_of_cell? w _ hx131_2)).trans hx131_2
      replace hx131_3 := (HB.out.cell (World.block_lt_of_cell? w _ hx131_3)).trans hx131_3
      replace p131 := eq_true p131
      replace q131 := eq_true q131
      go_wp2
      go_roundg kj9
      case measure => have := HK1.out; have := HJ9.out; omega
      case rel => exact ⟨(x10_1), (x11_1), (wrap64 (x12_1 + 1)), xE, xE, H', ⟨by have := HK1.out; have := HJ9.out; omega⟩, ⟨kr HO_10.out⟩, ⟨by (with_reducible repeat (first | refine blk_drewN ?_ _ | refine blk_drew ?_ | refine blk_alloc ?_ _)); exact BK111.out⟩, ⟨bl HB.out⟩⟩
     rw [if_neg c36] at H
     have c36b0 : (((rd_T90 l0 x12_1).f1) == a2) = false := beq_eq_false_iff_ne.mpr c36
     have c36b1 : (((rd_T90 l0 x12_1).f1) != a2) = true := bne_iff_ne.mpr c36
     by_cases c37 : x10_1.length < 4398046511104
     case neg =>
      rw [if_neg c37] at H
      exact absurd H (by simp)
     rw [if_pos c37] at H
     have LMc37 := aM c37
     clear c37
     obtain ⟨y133, hy133⟩ : ∃ y_ : List (S90), y_ = (x10_1 ++ [(⟨(rd_T90 l0 x12_1).f0, (rd_T90 l0 x12_1).f1, (rd_T90 l0 x12_1).f2, (rd_T90 l0 x12_1).f3⟩ : S90)]) := ⟨_, rfl⟩
     replace H : (spec_Hear.l0 kj9 l0 a1 a2 y133 x11_1 (wrap64 (x12_1 + 1)) a1 a2 a3 20) = some r := by first | (rw [hy133]; with_reducible exact H) | (have H2_ := (Option.bind_some _ _).symm.trans H; rw [hy133]; with_reducible exact H2_) | (have H2_ := (Option.bind_some _ _).symm.trans H; with_reducible exact H2_) | with_reducible exact H | (rw [hy133]; exact H) | exact H
     have Ny133 := aM hy133
     clear hy133
     have H' := aM H
     clear H
     have p130 : 0 ≤ (x12_1 : Int) := of_decide_eq_true (by first | (with_reducible assumption) | assumption)
     have q130 : x12_1 < (l0.length : Int) := of_decide_eq_true (by first | (with_reducible assumption) | assumption)
     obtain ⟨ad130, e130, hx130_0, hx130_1, hx130_2, hx130_3⟩ := at_T90 HR0.out x12_1 p130 q130
     cases e130
     replace hx130_0 := (HB.out.cell (World.block_lt_of_cell? w _ hx130_0)).trans hx130_0
     replace hx130_1 := (HB.out.cell (World.block_lt_of_cell? w _ hx130_1)).trans hx130_1
     replace hx130_2 := (HB.out.cell (World.block_lt_of_cell? w _ hx130_2)).trans hx130_2
     replace hx130_3 := (HB.out.cell (World.block_lt_of_cell? w _ hx130_3)).trans hx130_3
     replace p130 := eq_true p130
     replace q130 := eq_true q130
     have p131 : 0 ≤ (x12_1 : Int) := of_decide_eq_true (by first | (with_reducible assumption) | assumption)
     have q131 : x12_1 < (l0.length : Int) := of_decide_eq_true (by first | (with_reducible assumption) | assumption)
     obtain ⟨ad131, e131, hx131_0, hx131_1, hx131_2, hx131_3⟩ := at_T90 HR0.out x12_1 p131 q131
     obtain rfl : ad130 = ad131 := (by injection e131)
     replace hx131_0 := (HB.out.cell (World.block_lt_of_cell? w _ hx131_0)).trans hx131_0
     replace hx131_1 := (HB.out.cell (World.block_lt_of_cell? w _ hx131_1)).trans hx131_1
     replace hx131_2 := (HB.out.cell (World.block_lt_of_cell? w _ hx131_2)).trans hx131_2
     replace hx131_3 := (HB.out.cell (World.block_lt_of_cell? w _ hx131_3)).trans hx131_3
     replace p131 := eq_true p131
     replace q131 := eq_true q131
     have p132 : 0 ≤ (x12_1 : Int) := of_decide_eq_true (by first | (with_reducible assumption) | assumption)
     have q132 : x12_1 < (l0.length : Int) := of_decide_eq_true (by first | (with_reducible assumption) | assumption)
     obtain ⟨ad132, e132, hx132_0, hx132_1, hx132_2, hx132_3⟩ := at_T90 HR0.out x12_1 p132 q132
     obtain rfl : ad130 = ad132 := (by injection e132)
     replace hx132_0 := (HB.out.cell (World.block_lt_of_cell? w _ hx132_0)).trans hx132_0
     replace hx132_1 := (HB.out.cell (World.block_lt_of_cell? w _ hx132_1)).trans hx132_1
     replace hx132_2 := (HB.out.cell (World.block_lt_of_cell? w _ hx132_2)).trans hx132_2
     replace hx132_3 := (HB.out.cell (World.block_lt_of_cell? w _ hx132_3)).trans hx132_3
     replace p132 := eq_true p132
     replace q132 := eq_true q132
     go_wp2_with (first | ((with_reducible refine gate_builtin (b := .append) (xs := #[.tmp 55, .tmp 60]) rfl ?_); at_builtin; refine Kd.R_append k90 (w0 := w) w.heap.size rfl (.tmp 55) (.tmp 60) 38 90 (.agg #[(.int .i64 0), (.int .i64 0), (.int .i64 0), (.int .i64 0)]) 32 rfl Try.underlying38 info90 rfl (by decide) (by omega) u10 x10_1 (⟨(rd_T90 l0 x12_1).f0, (rd_T90 l0 x12_1).f1, (rd_T90 l0 x12_1).f2, (rd_T90 l0 x12_1).f3⟩ : S90) [.int .i64 ((rd_T90 l0 x12_1).f0), .int .i64 ((rd_T90 l0 x12_1).f1), .int .i64 ((rd_T90 l0 x12_1).f2), .int .i64 ((rd_T90 l0 x12_1).f3)] (fun k_ => k_ ≠ gb111) (fun _ => False) rfl rfl ?aP (fun _ hk => hk.elim) ?aF ?aO ?aB ?aS ?aL ?_; (case aP => exact k90_mkM _ _ _ (⟨(rd_T90 l0 x12_1).f0, (rd_T90 l0 x12_1).f1, (rd_T90 l0 x12_1).f2, (rd_T90 l0 x12_1).f3⟩ : S90)); (case aB => exact (bl HB.out)); (case aF => exact (fun k_ hk => Kd.freshB (g := gb111) (o := .cells #[.int .i64 a1, .int .i64 a2, .int .i64 a3, .int .i64 20] 90 (0, 0)) (bk BK111.out) k_ hk)); (case aO => exact (kr HO_10.out)); (case aS => exact (below_size (bl HB.out))); (case aL => have := LMc37.out; omega); intro v134 w38 ho hb hg hat; rw [← Ny133.out] at ho; have n0_ := aM (blk_grown (g := gb111) (o := .cells #[.int .i64 a1, .int .i64 a2, .int .i64 a3, .int .i64 20] 90 (0, 0)) (bk BK111.out) hg (Kd.R_away HO_10.out (fun _ hk => hk))); have n1_ := aM (hb); have n2_ := aM (ho); clear BK111 HB HO_10; have BK111 := n0_; have HB := n1_; have HO135 := n2_; clear n0_ n1_ n2_; clear ho hb hg hat))
     go_roundg kj9
     case measure => have := HK1.out; have := HJ9.out; omega
     case rel => exact ⟨(y133), (x11_1), (wrap64 (x12_1 + 1)), xE, xE, H', ⟨by have := HK1.out; have := HJ9.out; omega⟩, ⟨kr HO135.out⟩, ⟨by (with_reducible repeat (first | refine blk_drewN ?_ _ | refine blk_drew ?_ | refine blk_alloc ?_ _)); exact BK111.out⟩, ⟨bl HB.out⟩⟩

def laws_toHeard.f (a0_0 : Int) (a0_1 : Int) (a0_2 : Int) (a0_3 : Int) : Option (Int × Int × Int × Int) := some (a0_0, a0_1, a0_2, a0_3)
set_option maxHeartbeats 60000000 in
set_option maxRecDepth 100000 in
theorem laws_toHeard.calls (a0_0 : Int) (a0_1 : Int) (a0_2 : Int) (a0_3 : Int) (r1 : Int) (r2 : Int) (r3 : Int) (r4 : Int) (w : World) (h : laws_toHeard.f a0_0 a0_1 a0_2 a0_3 = some (r1, r2, r3, r4)) :
  Calls Try.prog 74 #[.agg #[.int .i64 a0_0, .int .i64 a0_1, .int .i64 a0_2, .int .i64 a0_3]] w fun e w' => e = .returned (.agg #[.int .i64 r1, .int .i64 r2, .int .i64 r3, .int .i64 r4]) ∧ Below w.heap.size w w' := by
 have hu94 := Try.underlying94
 have hu90 := Try.underlying90
 have HB := aM (Below.refl w.heap.size w)
 have H : (some (a0_0, a0_1, a0_2, a0_3)) = some (r1, r2, r3, r4) := h
 clear h
 simp only [Option.some.injEq, Prod.mk.injEq] at H
 obtain ⟨rfl, rfl, rfl, rfl⟩ := H
 go_enter Try.func74, Try.ntmps74
 go_wp2_with (first | ((with_reducible refine gate_dst (N := 1) rfl ?_); refine box_event ?hg (N := 1) ?hd (cs := #[.int .i64 a0_0, .int .i64 a0_1, .int .i64 a0_2, .int .i64 a0_3]) (t := 94) ?hr ?_; (case hd => rfl); (case hg => rfl); (case hr => first | (go_simp; done) | (go_simp; rfl)); intro gb157 hg w2 hbox hb; have n0_ := aM (bS (bl HB.out) hb); have n1_ := aM (hbox); have n2_ := aM ((by rw [hg]; exact (below_size (bl HB.out)) : w.heap.size ≤ gb157)); have n3_ := aM ((by rw [hg]; exact (below_size (bl HB.out)) : w.heap.size ≤ gb157)); clear HB; have HB := n0_; have BK157 := n1_; have GW157 := n2_; have GE157 := n3_; clear n0_ n1_ n2_ n3_; clear hb hbox hg) | ((with_reducible refine gate_dst (N := 2) rfl ?_); refine box_event ?hg (N := 2) ?hd (cs := #[.int .i64 0, .int .i64 0, .int .i64 0, .int .i64 0]) (t := 90) ?hr ?_; (case hd => rfl); (case hg => rfl); (case hr => first | (go_simp; done) | (go_simp; rfl)); intro gb158 hg w3 hbox hb; have n0_ := aM (bB (g := gb157) (o := .cells #[.int .i64 a0_0, .int .i64 a0_1, .int .i64 a0_2, .int .i64 a0_3] 94 (0, 0)) (bk BK157.out) hb); have n1_ := aM (bS (bl HB.out) hb); have n2_ := aM (hbox); have n3_ := aM ((by rw [hg]; exact (below_size (bl HB.out)) : w.heap.size ≤ gb158)); have n4_ := aM ((by rw [hg]; exact (below_size (bl HB.out)) : w.heap.size ≤ gb158)); have n5_ := aM ((by rw [hg]; exact Nat.ne_of_lt (blk_lt (g := gb157) (o := .cells #[.int .i64 a0_0, .int .i64 a0_1, .int .i64 a0_2, .int .i64 a0_3] 94 (0, 0)) (bk BK157.out)) : gb157 ≠ gb158)); have n6_ := aM ((by rw [hg]; exact Nat.ne_of_gt (blk_lt (g := gb157) (o := .cells #[.int .i64 a0_0, .int .i64 a0_1, .int .i64 a0_2, .int .i64 a0_3] 94 (0, 0)) (bk BK157.out)) : gb158 ≠ gb157)); clear BK157 HB; have BK157 := n0_; have HB := n1_; have BK158 := n2_; have GW158 := n3_; have GE158 := n4_; have NB157_158 := n5_; have NB158_157 := n6_; clear n0_ n1_ n2_ n3_ n4_ n5_ n6_; clear hb hbox hg) | ((with_reducible refine gate_dst (N := 3) rfl ?_); refine box_event ?hg (N := 3) ?hd (cs := #[.int .i64 0, .int .i64 0, .int .i64 0, .int .i64 0]) (t := 90) ?hr ?_; (case hd => rfl); (case hg => rfl); (case hr => first | (go_simp; done) | (go_simp; rfl)); intro gb159 hg w4 hbox hb; have n0_ := aM (bB (g := gb157) (o := .cells #[.int .i64 a0_0, .int .i64 a0_1, .int .i64 a0_2, .int .i64 a0_3] 94 (0, 0)) (bk BK157.out) hb); have n1_ := aM (bB (g := gb158) (o := .cells #[.int .i64 0, .int .i64 0, .int .i64 0, .int .i64 0] 90 (0, 0)) (bk BK158.out) hb); have n2_ := aM (bS (bl HB.out) hb); have n3_ := aM (hbox); have n4_ := aM ((by rw [hg]; exact (below_size (bl HB.out)) : w.heap.size ≤ gb159)); have n5_ := aM ((by rw [hg]; exact (below_size (bl HB.out)) : w.heap.size ≤ gb159)); have n6_ := aM ((by rw [hg]; exact Nat.ne_of_lt (blk_lt (g := gb157) (o := .cells #[.int .i64 a0_0, .int .i64 a0_1, .int .i64 a0_2, .int .i64 a0_3] 94 (0, 0)) (bk BK157.out)) : gb157 ≠ gb159)); have n7_ := aM ((by rw [hg]; exact Nat.ne_of_gt (blk_lt (g := gb157) (o := .cells #[.int .i64 a0_0, .int .i64 a0_1, .int .i64 a0_2, .int .i64 a0_3] 94 (0, 0)) (bk BK157.out)) : gb159 ≠ gb157)); have n8_ := aM ((by rw [hg]; exact Nat.ne_of_lt (blk_lt (g := gb158) (o := .cells #[.int .i64 0, .int .i64 0, .int .i64 0, .int .i64 0] 90 (0, 0)) (bk BK158.out)) : gb158 ≠ gb159)); have n9_ := aM ((by rw [hg]; exact Nat.ne_of_gt (blk_lt (g := gb158) (o := .cells #[.int .i64 0, .int .i64 0, .int .i64 0, .int .i64 0] 90 (0, 0)) (bk BK158.out)) : gb159 ≠ gb158)); clear BK157 BK158 HB; have BK157 := n0_; have BK158 := n1_; have HB := n2_; have BK159 := n3_; have GW159 := n4_; have GE159 := n5_; have NB157_159 := n6_; have NB159_157 := n7_; have NB158_159 := n8_; have NB159_158 := n9_; clear n0_ n1_ n2_ n3_ n4_ n5_ n6_ n7_ n8_ n9_; clear hb hbox hg; have hnb5 := NB157_158.out; have hnc5 := NB158_157.out; have hnb6 := NB157_159.out; have hnc6 := NB159_157.out; have hcz7_0 := cI BK157.out 0; have hcz7_1 := cI BK157.out 1; have hcz7_2 := cI BK157.out 2; have hcz7_3 := cI BK157.out 3; have hfz7_0 := bF BK157.out 0; have hfz7_1 := bF BK157.out 1; have hfz7_2 := bF BK157.out 2; have hfz7_3 := bF BK157.out 3; have hnb8 := NB159_158.out; have hnc8 := NB158_159.out; have hcz9_0 := cI BK159.out 0; have hcz9_1 := cI BK159.out 1; have hcz9_2 := cI BK159.out 2; have hcz9_3 := cI BK159.out 3; have hfz9_0 := bF BK159.out 0; have hfz9_1 := bF BK159.out 1; have hfz9_2 := bF BK159.out 2; have hfz9_3 := bF BK159.out 3; have hcz10_0 := cI BK158.out 0; have hcz10_1 := cI BK158.out 1; have hcz10_2 := cI BK158.out 2; have hcz10_3 := cI BK158.out 3; have hfz10_0 := bF BK158.out 0; have hfz10_1 := bF BK158.out 1; have hfz10_2 := bF BK158.out 2; have hfz10_3 := bF BK158.out 3))
 refine bodyPost_ret (results_cell_row rfl _ _ gb158 90 #[.int .i64 a0_0, .int .i64 a0_1, .int .i64 a0_2, .int .i64 a0_3] (0, 0) _ rfl (by (with_reducible repeat (first | refine blk_drewN ?_ _ | refine blk_drew ?_ | refine blk_alloc ?_ _)); refine blk_put (cs := #[.int .i64 a0_0, .int .i64 a0_1, .int .i64 a0_2, .int .i64 0]) ?_ 3 _ rfl; (with_reducible repeat (first | refine blk_drewN ?_ _ | refine blk_drew ?_ | refine blk_alloc ?_ _)); refine blk_put (cs := #[.int .i64 a0_0, .int .i64 a0_1, .int .i64 0, .int .i64 0]) ?_ 2 _ rfl; (with_reducible repeat (first | refine blk_drewN ?_ _ | refine blk_drew ?_ | refine blk_alloc ?_ _)); refine blk_put (cs := #[.int .i64 a0_0, .int .i64 0, .int .i64 0, .int .i64 0]) ?_ 1 _ rfl; (with_reducible repeat (first | refine blk_drewN ?_ _ | refine blk_drew ?_ | refine blk_alloc ?_ _)); refine blk_put (cs := #[.int .i64 0, .int .i64 0, .int .i64 0, .int .i64 0]) ?_ 0 _ rfl; (with_reducible repeat (first | refine blk_drewN ?_ _ | refine blk_drew ?_ | refine blk_alloc ?_ _)); refine blk_far ?_ NB158_159.out _; (with_reducible repeat (first | refine blk_drewN ?_ _ | refine blk_drew ?_ | refine blk_alloc ?_ _)); refine blk_far ?_ NB158_159.out _; (with_reducible repeat (first | refine blk_drewN ?_ _ | refine blk_drew ?_ | refine blk_alloc ?_ _)); refine blk_far ?_ NB158_159.out _; (with_reducible repeat (first | refine blk_drewN ?_ _ | refine blk_drew ?_ | refine blk_alloc ?_ _)); refine blk_far ?_ NB158_159.out _; (with_reducible repeat (first | refine blk_drewN ?_ _ | refine blk_drew ?_ | refine blk_alloc ?_ _)); exact BK158.out) Try.underlying90 rfl (by kernel_rfl)) rfl ?_
 exact ⟨xW, bl HB.out⟩

end Go.Proofs.Ytjmkbmpfknhcdaa.PFnExactHear
