/- Of the proof of laws.FnTables: a part. No condition beyond what its theorems say. -/
import Derived.Test.YtjaldondohddpaaVFnTablesPx0
import Derived.Test.YtjaldondohddpaaVFnTablesPx2
import Derived.Test.YtjaldondohddpaaVFnTablesPx3
namespace Go.Proofs.Ytjaldondohddpaa.PFnTables
open Go.RowKit Go.Proofs.YtjaldondohddpaaW.PrintWords Go.Proofs.YtjaldondohddpaaW.PrintLast Go.Proofs.YtjaldondohddpaaW.PrintMore
attribute [local go_sem] max2_int min2_int max_two min_two max_three min_three max_four min_four   -- for this text's walks alone
set_option linter.unusedVariables false
set_option linter.unusedSimpArgs false

mutual
def spec_Hear.l0 : Nat → List (S40) → Int → Int → List (S40) → Bool → Int → Int → Int → Int → Int → Option ((List (S40)))
 | 0, _, _, _, _, _, _, _, _, _, _ => none
 | k + 1, x0, x1, x2, x10, x11, x12, x115000, x115001, x115002, x115003 => if x12 < (x0.length : Int) then (if x11 = true then (spec_Hear.j1 k x0 x1 x2 x10 x11 x12 false x115000 x115001 x115002 x115003) else (if 0 ≤ x12 then ((spec_l3Before.f ((rd_T40 x0 x12).f0) ((rd_T40 x0 x12).f1) ((rd_T40 x0 x12).f2) ((rd_T40 x0 x12).f3) x115000 x115001 x115002 x115003).bind fun t119 => (spec_Hear.j1 k x0 x1 x2 x10 x11 x12 (!t119) x115000 x115001 x115002 x115003)) else (none))) else (if x11 = true then ((spec_TableOk.f k x10).bind fun t143 => (if t143 = true then (some x10) else ((some (([] : List (S40)) : List (S40))).bind fun y144 => (if y144.length + x0.length < 4398046511104 then (some (y144 ++ x0)) else (none))))) else (if x10.length < 4398046511104 then ((some (x10 ++ [(⟨x115000, x115001, x115002, x115003⟩ : S40)] : List (S40))).bind fun y150 => ((spec_TableOk.f k y150).bind fun t153 => (if t153 = true then (some y150) else ((some (([] : List (S40)) : List (S40))).bind fun y154 => (if y154.length + x0.length < 4398046511104 then (some (y154 ++ x0)) else (none)))))) else (none)))
def spec_Hear.j1 : Nat → List (S40) → Int → Int → List (S40) → Bool → Int → Bool → Int → Int → Int → Int → Option ((List (S40)))
 | 0, _, _, _, _, _, _, _, _, _, _, _ => none
 | k + 1, x0, x1, x2, x10, x11, x12, x34, x115000, x115001, x115002, x115003 => if x34 = true then (if x10.length < 4398046511104 then ((some (x10 ++ [(⟨x115000, x115001, x115002, x115003⟩ : S40)] : List (S40))).bind fun y120 => (if 0 ≤ x12 then (if x12 < (x0.length : Int) then (if ((rd_T40 x0 x12).f0) = x1 then (if ((rd_T40 x0 x12).f1) = x2 then (spec_Hear.l0 k x0 x1 x2 y120 true (wrap64 (x12 + 1)) x115000 x115001 x115002 x115003) else (if y120.length < 4398046511104 then (spec_Hear.l0 k x0 x1 x2 (y120 ++ [(⟨(rd_T40 x0 x12).f0, (rd_T40 x0 x12).f1, (rd_T40 x0 x12).f2, (rd_T40 x0 x12).f3⟩ : S40)]) true (wrap64 (x12 + 1)) x115000 x115001 x115002 x115003) else (none))) else (if y120.length < 4398046511104 then (spec_Hear.l0 k x0 x1 x2 (y120 ++ [(⟨(rd_T40 x0 x12).f0, (rd_T40 x0 x12).f1, (rd_T40 x0 x12).f2, (rd_T40 x0 x12).f3⟩ : S40)]) true (wrap64 (x12 + 1)) x115000 x115001 x115002 x115003) else (none))) else (none)) else (none))) else (none)) else (if 0 ≤ x12 then (if x12 < (x0.length : Int) then (if ((rd_T40 x0 x12).f0) = x1 then (if ((rd_T40 x0 x12).f1) = x2 then (spec_Hear.l0 k x0 x1 x2 x10 x11 (wrap64 (x12 + 1)) x115000 x115001 x115002 x115003) else (if x10.length < 4398046511104 then (spec_Hear.l0 k x0 x1 x2 (x10 ++ [(⟨(rd_T40 x0 x12).f0, (rd_T40 x0 x12).f1, (rd_T40 x0 x12).f2, (rd_T40 x0 x12).f3⟩ : S40)]) x11 (wrap64 (x12 + 1)) x115000 x115001 x115002 x115003) else (none))) else (if x10.length < 4398046511104 then (spec_Hear.l0 k x0 x1 x2 (x10 ++ [(⟨(rd_T40 x0 x12).f0, (rd_T40 x0 x12).f1, (rd_T40 x0 x12).f2, (rd_T40 x0 x12).f3⟩ : S40)]) x11 (wrap64 (x12 + 1)) x115000 x115001 x115002 x115003) else (none))) else (none)) else (none))
end
def spec_Hear.f (k : Nat) (l0 : List (S40)) (a1 : Int) (a2 : Int) (a3 : Int) : Option ((List (S40))) := spec_Hear.l0 k l0 a1 a2 (([] : List (S40))) false 0 a1 a2 a3 20
theorem spec_Hear.mono_l : ∀ k, (∀ y0 y1 y2 y3 y4 y5 y6 y7 y8 y9, LeO (spec_Hear.l0 k y0 y1 y2 y3 y4 y5 y6 y7 y8 y9) (spec_Hear.l0 (k + 1) y0 y1 y2 y3 y4 y5 y6 y7 y8 y9)) ∧ (∀ y0 y1 y2 y3 y4 y5 y6 y7 y8 y9 y10, LeO (spec_Hear.j1 k y0 y1 y2 y3 y4 y5 y6 y7 y8 y9 y10) (spec_Hear.j1 (k + 1) y0 y1 y2 y3 y4 y5 y6 y7 y8 y9 y10))
 | 0 => ⟨fun _ _ _ _ _ _ _ _ _ _ r h => by simp [spec_Hear.l0] at h, fun _ _ _ _ _ _ _ _ _ _ _ r h => by simp [spec_Hear.j1] at h⟩
 | k + 1 => by
  obtain ⟨ih0, ih1⟩ := spec_Hear.mono_l k
  refine ⟨?_, ?_⟩
  ·intro y0 y1 y2 y3 y4 y5 y6 y7 y8 y9
   unfold spec_Hear.l0
   repeat' first
   | (with_reducible exact ih0 _ _ _ _ _ _ _ _ _ _)
   | (with_reducible exact ih1 _ _ _ _ _ _ _ _ _ _ _)
   | (with_reducible exact spec_TableOk.mono _ _)
   | (with_reducible exact LeO.refl _)
   | (with_reducible exact LeO.none _)
   | (with_reducible refine LeO.ite ?_ ?_)
   | (with_reducible refine LeO.bind ?_ (fun _ => ?_))
   | exact ih0 _ _ _ _ _ _ _ _ _ _
   | exact ih1 _ _ _ _ _ _ _ _ _ _ _
   | exact spec_TableOk.mono _ _
   | exact LeO.none _
   | refine LeO.ite ?_ ?_
   | refine LeO.bind ?_ (fun _ => ?_)
  ·intro y0 y1 y2 y3 y4 y5 y6 y7 y8 y9 y10
   unfold spec_Hear.j1
   repeat' first
   | (with_reducible exact ih0 _ _ _ _ _ _ _ _ _ _)
   | (with_reducible exact ih1 _ _ _ _ _ _ _ _ _ _ _)
   | (with_reducible exact spec_TableOk.mono _ _)
   | (with_reducible exact LeO.refl _)
   | (with_reducible exact LeO.none _)
   | (with_reducible refine LeO.ite ?_ ?_)
   | (with_reducible refine LeO.bind ?_ (fun _ => ?_))
   | exact ih0 _ _ _ _ _ _ _ _ _ _
   | exact ih1 _ _ _ _ _ _ _ _ _ _ _
   | exact spec_TableOk.mono _ _
   | exact LeO.none _
   | refine LeO.ite ?_ ?_
   | refine LeO.bind ?_ (fun _ => ?_)
theorem spec_Hear.mono : ∀ a0 a1 a2 a3 k, LeO (spec_Hear.f k a0 a1 a2 a3) (spec_Hear.f (k + 1) a0 a1 a2 a3) := by
 intro a0 a1 a2 a3 k
 obtain ⟨ih0, ih1⟩ := spec_Hear.mono_l k
 unfold spec_Hear.f
 repeat' first
   | (with_reducible exact ih0 _ _ _ _ _ _ _ _ _ _)
   | (with_reducible exact ih1 _ _ _ _ _ _ _ _ _ _ _)
   | (with_reducible exact spec_TableOk.mono _ _)
   | (with_reducible exact LeO.refl _)
   | (with_reducible exact LeO.none _)
   | (with_reducible refine LeO.ite ?_ ?_)
   | (with_reducible refine LeO.bind ?_ (fun _ => ?_))
   | exact ih0 _ _ _ _ _ _ _ _ _ _
   | exact ih1 _ _ _ _ _ _ _ _ _ _ _
   | exact spec_TableOk.mono _ _
   | exact LeO.none _
   | refine LeO.ite ?_ ?_
   | refine LeO.bind ?_ (fun _ => ?_)
def spec_Hear.T7 : Bool × List (List Nat × List Nat) := (true, [([], []), ([0], [0]), ([1], [1]), ([2], [2]), ([2], [2]), ([3, 4, 2], [2, 3, 4]), ([5, 2], [2, 5]), ([2], [2]), ([6, 7, 2, 2], [2, 6, 7]), ([8, 2], [2, 8]), ([2, 9], [2, 9])])
def spec_Hear.B7 : List Nat := [0, 1, 3, 7, 7, 31, 63, 7, 255, 511, 1023]
theorem spec_Hear.tab7 : rtab .any (opsOf Try.f23 7) = spec_Hear.T7 := by kernel_rfl
theorem spec_Hear.bits7 : waitsOk spec_Hear.T7.2 spec_Hear.B7 = true := by kernel_rfl
set_option maxHeartbeats 60000000 in
set_option maxRecDepth 100000 in
theorem spec_Hear.calls (k : Nat) (A0 : Option Addr) (c0 : Nat) (l0 : List (S40)) (a1 : Int) (a2 : Int) (a3 : Int) (r : List (S40)) (w : World) (hr0 : Kd.C k40 w A0 l0.length l0) (hc0 : l0.length ≤ c0) (h : spec_Hear.f k l0 a1 a2 a3 = some r) :
  Calls Try.prog 23 #[.slice A0 l0.length c0, .int .i64 a1, .int .i64 a2, .int .i64 a3] w fun e w' => ∃ v0_ : Value, e = .returned (v0_) ∧ Kd.R k40 40 w' w.heap.size (fun _ => True) v0_ r ∧ Below w.heap.size w w' := by
 have hu40 := Try.underlying40
 have HR0 := aM hr0
 have HC0 := aM hc0
 clear hr0 hc0
 have HB := aM (Below.refl w.heap.size w)
 have H : (spec_Hear.l0 k l0 a1 a2 (([] : List (S40))) false 0 a1 a2 a3 20) = some r := h
 clear h
 obtain ⟨y115, hy115⟩ : ∃ y_ : List (S40), y_ = (([] : List (S40))) := ⟨_, rfl⟩
 replace H : (spec_Hear.l0 k l0 a1 a2 y115 false 0 a1 a2 a3 20) = some r := by first | (rw [hy115]; with_reducible exact H) | (have H2_ := (Option.bind_some _ _).symm.trans H; rw [hy115]; with_reducible exact H2_) | (have H2_ := (Option.bind_some _ _).symm.trans H; with_reducible exact H2_) | with_reducible exact H | (rw [hy115]; exact H) | exact H
 have Ny115 := aM hy115
 clear hy115
 have H' := aM H
 clear H
 go_enter Try.func23, Try.ntmps23
 go_wp2_with (first | ((with_reducible refine gate_dst (N := 9) rfl ?_); refine box_event ?hg (N := 9) ?hd (cs := #[.int .i64 0, .int .i64 0, .int .i64 0, .int .i64 0]) (t := 40) ?hr ?_; (case hd => rfl); (case hg => rfl); (case hr => first | (go_simp; done) | (go_simp; rfl)); intro gb114 hg w5 hbox hb; have n0_ := aM (bS (bl HB.out) hb); have n1_ := aM (hbox); have n2_ := aM ((by rw [hg]; exact (below_size (bl HB.out)) : w.heap.size ≤ gb114)); have n3_ := aM ((by rw [hg]; exact (below_size (bl HB.out)) : w.heap.size ≤ gb114)); clear HB; have HB := n0_; have BK114 := n1_; have GW114 := n2_; have GE114 := n3_; clear n0_ n1_ n2_ n3_; clear hb hbox hg; have hcz6_0 := cI BK114.out 0; have hcz6_1 := cI BK114.out 1; have hcz6_2 := cI BK114.out 2; have hcz6_3 := cI BK114.out 3; have hfz6_0 := bF BK114.out 0; have hfz6_1 := bF BK114.out 1; have hfz6_2 := bF BK114.out 2; have hfz6_3 := bF BK114.out 3) | ((with_reducible refine gate_dst (N := 17) rfl ?_); refine Kd.R_lit k40 _ 40 ?hg (N := 17) ?hd (xs := ([] : List (S40))) (inner := []) (ok := fun _ => True) (okp := fun _ => True) ?hr ?hp (fun _ hk => hk) trivial (Below.refl _ _) (Nat.le_refl _) (by simp) ?_; (case hd => rfl); (case hg => rfl); (case hr => first | (go_simp; done) | (go_simp; rfl)); (case hp => exact (Reps.none _ _)); intro v116 w7 ho8 hb hg_ hnew_; clear hg_ hnew_; (first | rw [← Ny115.out] at ho8 | (simp only [Int.reduceToNat] at ho8; rw [← Ny115.out] at ho8)); have n0_ := aM (Kd.R_lower (Kd.R_newB ho8 (g := gb114) (o := .cells #[.int .i64 a1, .int .i64 a2, .int .i64 a3, .int .i64 20] 40 (0, 0)) (by (with_reducible repeat (first | refine blk_drewN ?_ _ | refine blk_drew ?_ | refine blk_alloc ?_ _)); refine blk_put (cs := #[.int .i64 a1, .int .i64 a2, .int .i64 a3, .int .i64 0]) ?_ 3 _ rfl; (with_reducible repeat (first | refine blk_drewN ?_ _ | refine blk_drew ?_ | refine blk_alloc ?_ _)); refine blk_put (cs := #[.int .i64 a1, .int .i64 a2, .int .i64 0, .int .i64 0]) ?_ 2 _ rfl; (with_reducible repeat (first | refine blk_drewN ?_ _ | refine blk_drew ?_ | refine blk_alloc ?_ _)); refine blk_put (cs := #[.int .i64 a1, .int .i64 0, .int .i64 0, .int .i64 0]) ?_ 1 _ rfl; (with_reducible repeat (first | refine blk_drewN ?_ _ | refine blk_drew ?_ | refine blk_alloc ?_ _)); refine blk_put (cs := #[.int .i64 0, .int .i64 0, .int .i64 0, .int .i64 0]) ?_ 0 _ rfl; (with_reducible repeat (first | refine blk_drewN ?_ _ | refine blk_drew ?_ | refine blk_alloc ?_ _)); exact BK114.out)) (below_size (bl HB.out))); have n1_ := aM (bB (g := gb114) (o := .cells #[.int .i64 a1, .int .i64 a2, .int .i64 a3, .int .i64 20] 40 (0, 0)) (by (with_reducible repeat (first | refine blk_drewN ?_ _ | refine blk_drew ?_ | refine blk_alloc ?_ _)); refine blk_put (cs := #[.int .i64 a1, .int .i64 a2, .int .i64 a3, .int .i64 0]) ?_ 3 _ rfl; (with_reducible repeat (first | refine blk_drewN ?_ _ | refine blk_drew ?_ | refine blk_alloc ?_ _)); refine blk_put (cs := #[.int .i64 a1, .int .i64 a2, .int .i64 0, .int .i64 0]) ?_ 2 _ rfl; (with_reducible repeat (first | refine blk_drewN ?_ _ | refine blk_drew ?_ | refine blk_alloc ?_ _)); refine blk_put (cs := #[.int .i64 a1, .int .i64 0, .int .i64 0, .int .i64 0]) ?_ 1 _ rfl; (with_reducible repeat (first | refine blk_drewN ?_ _ | refine blk_drew ?_ | refine blk_alloc ?_ _)); refine blk_put (cs := #[.int .i64 0, .int .i64 0, .int .i64 0, .int .i64 0]) ?_ 0 _ rfl; (with_reducible repeat (first | refine blk_drewN ?_ _ | refine blk_drew ?_ | refine blk_alloc ?_ _)); exact BK114.out) hb); have n2_ := aM (bS (bl HB.out) hb); clear BK114 HB; have HO117 := n0_; have BK114 := n1_; have HB := n2_; clear n0_ n1_ n2_; clear hb ho8))
 go_loopg [10, 11, 12] k (fun kq v10 v11 v12 w' => ∃ (x10_1 : List (S40)) (x11_1 : Bool) (x12_1 : Int), v11 = .bool x11_1 ∧ v12 = .int .i64 x12_1 ∧ Aside0 (spec_Hear.l0 kq l0 a1 a2 x10_1 x11_1 x12_1 a1 a2 a3 20 = some r) ∧ Aside0 (kq ≤ k) ∧ Aside0 (Kd.R k40 40 w' w.heap.size (fun k_ => k_ ≠ gb114) v10 x10_1) ∧ Aside0 (w'.heap[gb114]? = some (.cells #[.int .i64 a1, .int .i64 a2, .int .i64 a3, .int .i64 20] 40 (0, 0))) ∧ Aside0 (Below w.heap.size w w'))
 case atStart => exact ⟨(y115), (false), (0), xE, xE, H', ⟨Nat.le_refl _⟩, ⟨kr (Kd.R_mono HO117.out (fun _ hk => hk.2))⟩, ⟨by (with_reducible repeat (first | refine blk_drewN ?_ _ | refine blk_drew ?_ | refine blk_alloc ?_ _)); exact BK114.out⟩, ⟨bl HB.out⟩⟩
 case round =>
  clear H'
  try clear c2
  try clear p2
  try clear hcz6_0
  try clear hcz6_1
  try clear hcz6_2
  try clear hcz6_3
  try clear hfz6_0
  try clear hfz6_1
  try clear hfz6_2
  try clear hfz6_3
  obtain ⟨x10_1, x11_1, x12_1, rfl, rfl, HA, HK1, HO_10, BK114, HB⟩ := hrel
  cases gk with
  | zero => exact absurd HA.out (by simp [spec_Hear.l0])
  | succ k1 =>
   have H := HA.out
   clear HA
   simp only [spec_Hear.l0] at H
   by_cases c9 : x12_1 < (l0.length : Int)
   case neg =>
    rw [if_neg c9] at H
    have c9b0 : decide (x12_1 < (l0.length : Int)) = false := decide_eq_false c9
    clear c9
    by_cases c41 : x11_1 = true
    case pos =>
     subst c41
     have H1 : ((spec_TableOk.f k1 x10_1).bind fun t143 => (if t143 = true then (some x10_1) else ((some (([] : List (S40)) : List (S40))).bind fun y144 => (if y144.length + l0.length < 4398046511104 then (some (y144 ++ l0)) else (none))))) = some r := by rw [if_pos rfl] at H; exact H
     clear H
     have H := H1
     clear H1
     replace H := Option.bind_eq_some_iff.mp H
     obtain ⟨t143, A420, H⟩ := H
     replace H : (if t143 = true then (some x10_1) else ((some (([] : List (S40)) : List (S40))).bind fun y144 => (if y144.length + l0.length < 4398046511104 then (some (y144 ++ l0)) else (none)))) = some r := H
     have A42 := aM A420
     clear A420
     by_cases c43 : t143 = true
     case pos =>
      subst c43
      have H1 : (some x10_1) = some r := by rw [if_pos rfl] at H; exact H
      clear H
      have H := H1
      clear H1
      obtain rfl := Option.some.inj H
      obtain ⟨Ao44, co44, eo44⟩ := Kd.R_slice HO_10.out
      subst eo44
      go_wp2_with (first | ((with_reducible refine gate_callee (f := 27) rfl ?_); refine goesL_ (some 69) rfl rfl Try.func27 (by kernel_rfl) rfl #[.slice Ao44 x10_1.length co44] rfl xR ?_; (with_reducible refine (spec_TableOk.calls k1 _ _ x10_1 true _ ?side1 ?side2 A42.out).mono ?_); (case side1 => repeat (first | exact (Kd.R_reads' HO_10.out).2.2 | (with_reducible refine Kd.C_alloc ?_ _) | (with_reducible refine Kd.C_drewN ?_ _) | (with_reducible refine Kd.C_drew ?_))); (case side2 => exact (Kd.R_reads' HO_10.out).2.1); rintro e w45 ⟨rfl, hb⟩; refine ⟨_, rfl, ?_⟩; have n0_ := aM (kB (kr HO_10.out) hb); have n1_ := aM (bB (g := gb114) (o := .cells #[.int .i64 a1, .int .i64 a2, .int .i64 a3, .int .i64 20] 40 (0, 0)) (bk BK114.out) hb); have n2_ := aM (bS (bl HB.out) hb); clear HO_10 BK114 HB; have HO_10 := n0_; have BK114 := n1_; have HB := n2_; clear n0_ n1_ n2_; (try clear hb)))
      go_ret
      exact ⟨_, xW, by (with_reducible repeat (first | apply Kd.R_alloc | apply Kd.R_drewN | apply Kd.R_drew)); exact Kd.R_mono HO_10.out (fun _ hk => trivial), bl HB.out⟩
     replace c43 := Bool.eq_false_iff.mpr c43
     subst c43
     have H1 : ((some (([] : List (S40)) : List (S40))).bind fun y144 => (if y144.length + l0.length < 4398046511104 then (some (y144 ++ l0)) else (none))) = some r := by rw [if_neg (show ¬ (false = true) by decide)] at H; exact H
     clear H
     have H := H1
     clear H1
     obtain ⟨y144, hy144⟩ : ∃ y_ : List (S40), y_ = (([] : List (S40))) := ⟨_, rfl⟩
     replace H : (if y144.length + l0.length < 4398046511104 then (some (y144 ++ l0)) else (none)) = some r := by first | (rw [hy144]; with_reducible exact H) | (have H2_ := (Option.bind_some _ _).symm.trans H; rw [hy144]; with_reducible exact H2_) | (have H2_ := (Option.bind_some _ _).symm.trans H; with_reducible exact H2_) | with_reducible exact H | (rw [hy144]; exact H) | exact H
     have Ny144 := aM hy144
     clear hy144
     by_cases c46 : y144.length + l0.length < 4398046511104
     case neg =>
      rw [if_neg c46] at H
      exact absurd H (by simp)
     rw [if_pos c46] at H
     have LMc46 := aM c46
     clear c46
     obtain ⟨y147, hy147⟩ : ∃ y_ : List (S40), y_ = (y144 ++ l0) := ⟨_, rfl⟩
     replace H : (some y147) = some r := by first | (rw [hy147]; with_reducible exact H) | (have H2_ := (Option.bind_some _ _).symm.trans H; rw [hy147]; with_reducible exact H2_) | (have H2_ := (Option.bind_some _ _).symm.trans H; with_reducible exact H2_) | with_reducible exact H | (rw [hy147]; exact H) | exact H
     have Ny147 := aM hy147
     clear hy147
     obtain rfl := Option.some.inj H
     obtain ⟨Ao47, co47, eo47⟩ := Kd.R_slice HO_10.out
     subst eo47
     go_wp2_with (first | ((with_reducible refine gate_callee (f := 27) rfl ?_); refine goesL_ (some 69) rfl rfl Try.func27 (by kernel_rfl) rfl #[.slice Ao47 x10_1.length co47] rfl xR ?_; (with_reducible refine (spec_TableOk.calls k1 _ _ x10_1 false _ ?side1 ?side2 A42.out).mono ?_); (case side1 => repeat (first | exact (Kd.R_reads' HO_10.out).2.2 | (with_reducible refine Kd.C_alloc ?_ _) | (with_reducible refine Kd.C_drewN ?_ _) | (with_reducible refine Kd.C_drew ?_))); (case side2 => exact (Kd.R_reads' HO_10.out).2.1); rintro e w48 ⟨rfl, hb⟩; refine ⟨_, rfl, ?_⟩; have n0_ := aM (kB (kr HO_10.out) hb); have n1_ := aM (bB (g := gb114) (o := .cells #[.int .i64 a1, .int .i64 a2, .int .i64 a3, .int .i64 20] 40 (0, 0)) (bk BK114.out) hb); have n2_ := aM (bS (bl HB.out) hb); clear HO_10 BK114 HB; have HO_10 := n0_; have BK114 := n1_; have HB := n2_; clear n0_ n1_ n2_; (try clear hb)) | ((with_reducible refine gate_dst (N := 71) rfl ?_); refine Kd.R_lit k40 _ 40 ?hg (N := 71) ?hd (xs := ([] : List (S40))) (inner := []) (ok := fun _ => True) (okp := fun _ => True) ?hr ?hp (fun _ hk => hk) trivial (Below.refl _ _) (Nat.le_refl _) (by simp) ?_; (case hd => rfl); (case hg => rfl); (case hr => first | (go_simp; done) | (go_simp; rfl) | (obtain ⟨A_, c_, e_⟩ := Kd.R_slice HO_10.out; subst e_; (first | (go_simp; done) | (go_simp; rfl))) | (obtain ⟨A_, c_, e_⟩ := Kd.S_slice HO_10.out; subst e_; (first | (go_simp; done) | (go_simp; rfl))) | (obtain ⟨A_, c_, e_⟩ := Kd.R_slice HO146.out; subst e_; (first | (go_simp; done) | (go_simp; rfl))) | (obtain ⟨A_, c_, e_⟩ := Kd.S_slice HO146.out; subst e_; (first | (go_simp; done) | (go_simp; rfl)))); (case hp => exact (Reps.none _ _)); intro v145 w49 ho50 hb hg_ hnew_; clear hg_ hnew_; (first | rw [← Ny144.out] at ho50 | (simp only [Int.reduceToNat] at ho50; rw [← Ny144.out] at ho50)); have n0_ := aM (Kd.R_elder' (kr HO_10.out) (Kd.R_base ho50) hb); have n1_ := aM (Kd.R_lower (Kd.R_newB (Kd.R_new' ho50 (Kd.R_lt (kr HO_10.out))) (g := gb114) (o := .cells #[.int .i64 a1, .int .i64 a2, .int .i64 a3, .int .i64 20] 40 (0, 0)) (bk BK114.out)) (below_size (bl HB.out))); have n2_ := aM (bB (g := gb114) (o := .cells #[.int .i64 a1, .int .i64 a2, .int .i64 a3, .int .i64 20] 40 (0, 0)) (bk BK114.out) hb); have n3_ := aM (bS (bl HB.out) hb); clear HO_10 BK114 HB; have HO_10 := n0_; have HO146 := n1_; have BK114 := n2_; have HB := n3_; clear n0_ n1_ n2_ n3_; clear hb ho50) | ((with_reducible refine gate_builtin (b := .append) (xs := #[.tmp 71, .tmp 72]) rfl ?_); at_builtin; refine Kd.R_append_rows k40 (w0 := w) w.heap.size rfl (.tmp 71) (.tmp 72) 24 40 (.agg #[(.int .i64 0), (.int .i64 0), (.int .i64 0), (.int .i64 0)]) 32 rfl Try.underlying24 info40 rfl (by decide) (by omega) v145 y144 l0 _ _ _ (fun k_ => some k_ ≠ (.slice Ao47 x10_1.length co47 : Value).ownBlock ∧ k_ ≠ gb114) (fun _ => False) rfl rfl ?aO ?aR (fun _ _ h => h) (fun _ h => h.elim) ?aF ?aB ?aS ?aL ?_; (case aR => repeat (first | exact (cB HR0.out HB.out) | (with_reducible refine Kd.C_alloc ?_ _) | (with_reducible refine Kd.C_drewN ?_ _) | (with_reducible refine Kd.C_drew ?_))); (case aB => exact (bl HB.out)); (case aF => exact (fun k_ hk => ⟨Kd.fresh' (Kd.R_lt (kr HO_10.out)) k_ hk, Kd.freshB (g := gb114) (o := .cells #[.int .i64 a1, .int .i64 a2, .int .i64 a3, .int .i64 20] 40 (0, 0)) (bk BK114.out) k_ hk⟩)); (case aO => exact (kr (Kd.R_mono HO146.out (fun _ hk => ⟨hk.1.2, hk.2⟩)))); (case aS => exact (below_size (bl HB.out))); (case aL => have := LMc46.out; omega); intro v148 w51 ho hb hg hat; rw [← Ny147.out] at ho; have n0_ := aM (Kd.R_after (ok := (fun k_ => k_ ≠ gb114)) (kr HO_10.out) hg hat); have n1_ := aM (blk_grown (g := gb114) (o := .cells #[.int .i64 a1, .int .i64 a2, .int .i64 a3, .int .i64 20] 40 (0, 0)) (bk BK114.out) hg (Kd.R_away HO146.out (fun _ hk => hk.2))); have n2_ := aM (hb); have n3_ := aM (ho); clear HO_10 BK114; clear HB HO146; have HO_10 := n0_; have BK114 := n1_; have HB := n2_; have HO149 := n3_; clear n0_ n1_ n2_ n3_; clear ho hb hg hat))
     go_ret
     exact ⟨_, xW, by (with_reducible repeat (first | apply Kd.R_alloc | apply Kd.R_drewN | apply Kd.R_drew)); exact Kd.R_mono HO149.out (fun _ hk => trivial), bl HB.out⟩
    replace c41 := Bool.eq_false_iff.mpr c41
    subst c41
    have H1 : (if x10_1.length < 4398046511104 then ((some (x10_1 ++ [(⟨a1, a2, a3, 20⟩ : S40)] : List (S40))).bind fun y150 => ((spec_TableOk.f k1 y150).bind fun t153 => (if t153 = true then (some y150) else ((some (([] : List (S40)) : List (S40))).bind fun y154 => (if y154.length + l0.length < 4398046511104 then (some (y154 ++ l0)) else (none)))))) else (none)) = some r := by rw [if_neg (show ¬ (false = true) by decide)] at H; exact H
    clear H
    have H := H1
    clear H1
    by_cases c52 : x10_1.length < 4398046511104
    case neg =>
     rw [if_neg c52] at H
     exact absurd H (by simp)
    rw [if_pos c52] at H
    have LMc52 := aM c52
    clear c52
    obtain ⟨y150, hy150⟩ : ∃ y_ : List (S40), y_ = (x10_1 ++ [(⟨a1, a2, a3, 20⟩ : S40)]) := ⟨_, rfl⟩
    replace H : ((spec_TableOk.f k1 y150).bind fun t153 => (if t153 = true then (some y150) else ((some (([] : List (S40)) : List (S40))).bind fun y154 => (if y154.length + l0.length < 4398046511104 then (some (y154 ++ l0)) else (none))))) = some r := by first | (rw [hy150]; with_reducible exact H) | (have H2_ := (Option.bind_some _ _).symm.trans H; rw [hy150]; with_reducible exact H2_) | (have H2_ := (Option.bind_some _ _).symm.trans H; with_reducible exact H2_) | with_reducible exact H | (rw [hy150]; exact H) | exact H
    have Ny150 := aM hy150
    clear hy150
    replace H := Option.bind_eq_some_iff.mp H
    obtain ⟨t153, A530, H⟩ := H
    replace H : (if t153 = true then (some y150) else ((some (([] : List (S40)) : List (S40))).bind fun y154 => (if y154.length + l0.length < 4398046511104 then (some (y154 ++ l0)) else (none)))) = some r := H
    have A53 := aM A530
    clear A530
    by_cases c54 : t153 = true
    case pos =>
     subst c54
     have H1 : (some y150) = some r := by rw [if_pos rfl] at H; exact H
     clear H
     have H := H1
     clear H1
     obtain rfl := Option.some.inj H
     have hcz55_0 := cI BK114.out 0
     have hcz55_1 := cI BK114.out 1
     have hcz55_2 := cI BK114.out 2
     have hcz55_3 := cI BK114.out 3
     have hfz55_0 := bF BK114.out 0
     have hfz55_1 := bF BK114.out 1
     have hfz55_2 := bF BK114.out 2
     have hfz55_3 := bF BK114.out 3
     go_wp2_with (first | ((with_reducible refine gate_builtin (b := .append) (xs := #[.tmp 64, .tmp 66]) rfl ?_); at_builtin; refine Kd.R_append k40 (w0 := w) w.heap.size rfl (.tmp 64) (.tmp 66) 24 40 (.agg #[(.int .i64 0), (.int .i64 0), (.int .i64 0), (.int .i64 0)]) 32 rfl Try.underlying24 info40 rfl (by decide) (by omega) u10 x10_1 (⟨a1, a2, a3, 20⟩ : S40) [.int .i64 a1, .int .i64 a2, .int .i64 a3, .int .i64 20] (fun k_ => k_ ≠ gb114) (fun _ => False) rfl rfl ?aP (fun _ hk => hk.elim) ?aF ?aO ?aB ?aS ?aL ?_; (case aP => exact k40_mkM _ _ _ (⟨a1, a2, a3, 20⟩ : S40)); (case aB => exact (bl HB.out)); (case aF => exact (fun k_ hk => Kd.freshB (g := gb114) (o := .cells #[.int .i64 a1, .int .i64 a2, .int .i64 a3, .int .i64 20] 40 (0, 0)) (bk BK114.out) k_ hk)); (case aO => exact (kr HO_10.out)); (case aS => exact (below_size (bl HB.out))); (case aL => have := LMc52.out; omega); intro v151 w56 ho hb hg hat; rw [← Ny150.out] at ho; have n0_ := aM (blk_grown (g := gb114) (o := .cells #[.int .i64 a1, .int .i64 a2, .int .i64 a3, .int .i64 20] 40 (0, 0)) (bk BK114.out) hg (Kd.R_away HO_10.out (fun _ hk => hk))); have n1_ := aM (hb); have n2_ := aM (ho); clear BK114 HB HO_10; have BK114 := n0_; have HB := n1_; have HO152 := n2_; clear n0_ n1_ n2_; clear ho hb hg hat; obtain ⟨Ao57, co57, eo57⟩ := Kd.R_slice HO152.out; subst eo57) | ((with_reducible refine gate_callee (f := 27) rfl ?_); refine goesL_ (some 69) rfl rfl Try.func27 (by kernel_rfl) rfl #[.slice Ao57 y150.length co57] rfl xR ?_; (with_reducible refine (spec_TableOk.calls k1 _ _ y150 true _ ?side1 ?side2 A53.out).mono ?_); (case side1 => repeat (first | exact (Kd.R_reads' HO152.out).2.2 | (with_reducible refine Kd.C_alloc ?_ _) | (with_reducible refine Kd.C_drewN ?_ _) | (with_reducible refine Kd.C_drew ?_))); (case side2 => exact (Kd.R_reads' HO152.out).2.1); rintro e w58 ⟨rfl, hb⟩; refine ⟨_, rfl, ?_⟩; have n0_ := aM (kB (kr HO152.out) hb); have n1_ := aM (bB (g := gb114) (o := .cells #[.int .i64 a1, .int .i64 a2, .int .i64 a3, .int .i64 20] 40 (0, 0)) (bk BK114.out) hb); have n2_ := aM (bS (bl HB.out) hb); clear HO152 BK114 HB; have HO152 := n0_; have BK114 := n1_; have HB := n2_; clear n0_ n1_ n2_; (try clear hb)))
     go_ret
     exact ⟨_, xW, by (with_reducible repeat (first | apply Kd.R_alloc | apply Kd.R_drewN | apply Kd.R_drew)); exact Kd.R_mono HO152.out (fun _ hk => trivial), bl HB.out⟩
    replace c54 := Bool.eq_false_iff.mpr c54
    subst c54
    have H1 : ((some (([] : List (S40)) : List (S40))).bind fun y154 => (if y154.length + l0.length < 4398046511104 then (some (y154 ++ l0)) else (none))) = some r := by rw [if_neg (show ¬ (false = true) by decide)] at H; exact H
    clear H
    have H := H1
    clear H1
    obtain ⟨y154, hy154⟩ : ∃ y_ : List (S40), y_ = (([] : List (S40))) := ⟨_, rfl⟩
    replace H : (if y154.length + l0.length < 4398046511104 then (some (y154 ++ l0)) else (none)) = some r := by first | (rw [hy154]; with_reducible exact H) | (have H2_ := (Option.bind_some _ _).symm.trans H; rw [hy154]; with_reducible exact H2_) | (have H2_ := (Option.bind_some _ _).symm.trans H; with_reducible exact H2_) | with_reducible exact H | (rw [hy154]; exact H) | exact H
    have Ny154 := aM hy154
    clear hy154
    by_cases c59 : y154.length + l0.length < 4398046511104
    case neg =>
     rw [if_neg c59] at H
     exact absurd H (by simp)
    rw [if_pos c59] at H
    have LMc59 := aM c59
    clear c59
    obtain ⟨y157, hy157⟩ : ∃ y_ : List (S40), y_ = (y154 ++ l0) := ⟨_, rfl⟩
    replace H : (some y157) = some r := by first | (rw [hy157]; with_reducible exact H) | (have H2_ := (Option.bind_some _ _).symm.trans H; rw [hy157]; with_reducible exact H2_) | (have H2_ := (Option.bind_some _ _).symm.trans H; with_reducible exact H2_) | with_reducible exact H | (rw [hy157]; exact H) | exact H
    have Ny157 := aM hy157
    clear hy157
    obtain rfl := Option.some.inj H
    have hcz60_0 := cI BK114.out 0
    have hcz60_1 := cI BK114.out 1
    have hcz60_2 := cI BK114.out 2
    have hcz60_3 := cI BK114.out 3
    have hfz60_0 := bF BK114.out 0
    have hfz60_1 := bF BK114.out 1
    have hfz60_2 := bF BK114.out 2
    have hfz60_3 := bF BK114.out 3
    go_wp2_with (first | ((with_reducible refine gate_builtin (b := .append) (xs := #[.tmp 64, .tmp 66]) rfl ?_); at_builtin; refine Kd.R_append k40 (w0 := w) w.heap.size rfl (.tmp 64) (.tmp 66) 24 40 (.agg #[(.int .i64 0), (.int .i64 0), (.int .i64 0), (.int .i64 0)]) 32 rfl Try.underlying24 info40 rfl (by decide) (by omega) u10 x10_1 (⟨a1, a2, a3, 20⟩ : S40) [.int .i64 a1, .int .i64 a2, .int .i64 a3, .int .i64 20] (fun k_ => k_ ≠ gb114) (fun _ => False) rfl rfl ?aP (fun _ hk => hk.elim) ?aF ?aO ?aB ?aS ?aL ?_; (case aP => exact k40_mkM _ _ _ (⟨a1, a2, a3, 20⟩ : S40)); (case aB => exact (bl HB.out)); (case aF => exact (fun k_ hk => Kd.freshB (g := gb114) (o := .cells #[.int .i64 a1, .int .i64 a2, .int .i64 a3, .int .i64 20] 40 (0, 0)) (bk BK114.out) k_ hk)); (case aO => exact (kr HO_10.out)); (case aS => exact (below_size (bl HB.out))); (case aL => have := LMc52.out; omega); intro v151 w61 ho hb hg hat; rw [← Ny150.out] at ho; have n0_ := aM (blk_grown (g := gb114) (o := .cells #[.int .i64 a1, .int .i64 a2, .int .i64 a3, .int .i64 20] 40 (0, 0)) (bk BK114.out) hg (Kd.R_away HO_10.out (fun _ hk => hk))); have n1_ := aM (hb); have n2_ := aM (ho); clear BK114 HB HO_10; have BK114 := n0_; have HB := n1_; have HO152 := n2_; clear n0_ n1_ n2_; clear ho hb hg hat; obtain ⟨Ao62, co62, eo62⟩ := Kd.R_slice HO152.out; subst eo62) | ((with_reducible refine gate_callee (f := 27) rfl ?_); refine goesL_ (some 69) rfl rfl Try.func27 (by kernel_rfl) rfl #[.slice Ao62 y150.length co62] rfl xR ?_; (with_reducible refine (spec_TableOk.calls k1 _ _ y150 false _ ?side1 ?side2 A53.out).mono ?_); (case side1 => repeat (first | exact (Kd.R_reads' HO152.out).2.2 | (with_reducible refine Kd.C_alloc ?_ _) | (with_reducible refine Kd.C_drewN ?_ _) | (with_reducible refine Kd.C_drew ?_))); (case side2 => exact (Kd.R_reads' HO152.out).2.1); rintro e w63 ⟨rfl, hb⟩; refine ⟨_, rfl, ?_⟩; have n0_ := aM (kB (kr HO152.out) hb); have n1_ := aM (bB (g := gb114) (o := .cells #[.int .i64 a1, .int .i64 a2, .int .i64 a3, .int .i64 20] 40 (0, 0)) (bk BK114.out) hb); have n2_ := aM (bS (bl HB.out) hb); clear HO152 BK114 HB; have HO152 := n0_; have BK114 := n1_; have HB := n2_; clear n0_ n1_ n2_; (try clear hb)) | ((with_reducible refine gate_dst (N := 71) rfl ?_); refine Kd.R_lit k40 _ 40 ?hg (N := 71) ?hd (xs := ([] : List (S40))) (inner := []) (ok := fun _ => True) (okp := fun _ => True) ?hr ?hp (fun _ hk => hk) trivial (Below.refl _ _) (Nat.le_refl _) (by simp) ?_; (case hd => rfl); (case hg => rfl); (case hr => first | (go_simp; done) | (go_simp; rfl) | (obtain ⟨A_, c_, e_⟩ := Kd.R_slice HO152.out; subst e_; (first | (go_simp; done) | (go_simp; rfl))) | (obtain ⟨A_, c_, e_⟩ := Kd.S_slice HO152.out; subst e_; (first | (go_simp; done) | (go_simp; rfl))) | (obtain ⟨A_, c_, e_⟩ := Kd.R_slice HO156.out; subst e_; (first | (go_simp; done) | (go_simp; rfl))) | (obtain ⟨A_, c_, e_⟩ := Kd.S_slice HO156.out; subst e_; (first | (go_simp; done) | (go_simp; rfl)))); (case hp => exact (Reps.none _ _)); intro v155 w64 ho65 hb hg_ hnew_; clear hg_ hnew_; (first | rw [← Ny154.out] at ho65 | (simp only [Int.reduceToNat] at ho65; rw [← Ny154.out] at ho65)); have n0_ := aM (Kd.R_elder' (kr HO152.out) (Kd.R_base ho65) hb); have n1_ := aM (Kd.R_lower (Kd.R_newB (Kd.R_new' ho65 (Kd.R_lt (kr HO152.out))) (g := gb114) (o := .cells #[.int .i64 a1, .int .i64 a2, .int .i64 a3, .int .i64 20] 40 (0, 0)) (bk BK114.out)) (below_size (bl HB.out))); have n2_ := aM (bB (g := gb114) (o := .cells #[.int .i64 a1, .int .i64 a2, .int .i64 a3, .int .i64 20] 40 (0, 0)) (bk BK114.out) hb); have n3_ := aM (bS (bl HB.out) hb); clear HO152 BK114 HB; have HO152 := n0_; have HO156 := n1_; have BK114 := n2_; have HB := n3_; clear n0_ n1_ n2_ n3_; clear hb ho65) | ((with_reducible refine gate_builtin (b := .append) (xs := #[.tmp 71, .tmp 72]) rfl ?_); at_builtin; refine Kd.R_append_rows k40 (w0 := w) w.heap.size rfl (.tmp 71) (.tmp 72) 24 40 (.agg #[(.int .i64 0), (.int .i64 0), (.int .i64 0), (.int .i64 0)]) 32 rfl Try.underlying24 info40 rfl (by decide) (by omega) v155 y154 l0 _ _ _ (fun k_ => some k_ ≠ (.slice Ao62 y150.length co62 : Value).ownBlock ∧ k_ ≠ gb114) (fun _ => False) rfl rfl ?aO ?aR (fun _ _ h => h) (fun _ h => h.elim) ?aF ?aB ?aS ?aL ?_; (case aR => repeat (first | exact (cB HR0.out HB.out) | (with_reducible refine Kd.C_alloc ?_ _) | (with_reducible refine Kd.C_drewN ?_ _) | (with_reducible refine Kd.C_drew ?_))); (case aB => exact (bl HB.out)); (case aF => exact (fun k_ hk => ⟨Kd.fresh' (Kd.R_lt (kr HO152.out)) k_ hk, Kd.freshB (g := gb114) (o := .cells #[.int .i64 a1, .int .i64 a2, .int .i64 a3, .int .i64 20] 40 (0, 0)) (bk BK114.out) k_ hk⟩)); (case aO => exact (kr (Kd.R_mono HO156.out (fun _ hk => ⟨hk.1.2, hk.2⟩)))); (case aS => exact (below_size (bl HB.out))); (case aL => have := LMc59.out; omega); intro v158 w66 ho hb hg hat; rw [← Ny157.out] at ho; have n0_ := aM (blk_grown (g := gb114) (o := .cells #[.int .i64 a1, .int .i64 a2, .int .i64 a3, .int .i64 20] 40 (0, 0)) (bk BK114.out) hg (Kd.R_away HO156.out (fun _ hk => hk.2))); have n1_ := aM (Kd.R_after (ok := (fun k_ => k_ ≠ gb114)) (kr HO152.out) hg hat); have n2_ := aM (hb); have n3_ := aM (ho); clear BK114 HO152; clear HB HO156; have BK114 := n0_; have HO152 := n1_; have HB := n2_; have HO159 := n3_; clear n0_ n1_ n2_ n3_; clear ho hb hg hat))
    go_ret
    exact ⟨_, xW, by (with_reducible repeat (first | apply Kd.R_alloc | apply Kd.R_drewN | apply Kd.R_drew)); exact Kd.R_mono HO159.out (fun _ hk => trivial), bl HB.out⟩
   rw [if_pos c9] at H
   have c9b0 : decide (x12_1 < (l0.length : Int)) = true := decide_eq_true c9
   clear c9
   have HC10 := aM H
   clear H
   go_upto_region 7 with (fail)
   go_cut [34] (fun v34 wc => ∃ (kq : Nat) (x34_9 : Bool), v34 = .bool x34_9 ∧ Aside0 (spec_Hear.j1 kq l0 a1 a2 x10_1 x11_1 x12_1 x34_9 a1 a2 a3 20 = some r) ∧ Aside0 (kq ≤ k1) ∧ Aside0 (Kd.R k40 40 wc w.heap.size (fun k_ => k_ ≠ gb114) u10 x10_1) ∧ Aside0 (wc.heap[gb114]? = some (.cells #[.int .i64 a1, .int .i64 a2, .int .i64 a3, .int .i64 20] 40 (0, 0))) ∧ Aside0 (Below w.heap.size w wc))
   case first =>
    have H := HC10.out
    clear HC10
    by_cases c11 : x11_1 = true
    case pos =>
     subst c11
     have H1 : (spec_Hear.j1 k1 l0 a1 a2 x10_1 true x12_1 false a1 a2 a3 20) = some r := by rw [if_pos rfl] at H; exact H
     clear H
     have H := H1
     clear H1
     have H' := aM H
     clear H
     try go_wp2
     have n0_ := aM (Kd.R_drew HO_10.out)
     have n1_ := aM (blk_drew BK114.out)
     have n2_ := aM (below_drew1 HB.out)
     clear HO_10 BK114 HB
     have HO_10 := n0_
     have BK114 := n1_
     have HB := n2_
     clear n0_ n1_ n2_
     refine start_ (n := 11) (S := fun w' => True) (ds := []) #[U,U,U,U,U,U,U,U,U,U,U] (by kernel_rfl) rfl rfl trivial (fun hHeld => ?_); refine with_tabW spec_Hear.tab7 spec_Hear.bits7 (fun HT_ HW_ => ?_)
     generalize wr.drew = w12 at HO_10 BK114 HB hHeld ⊢
     refine pure_ (i := 0) (N := some 24) (v := ?_) (a' := ?_) #[Y,U,U,U,U,U,U,U,U,U,U] rfl rfl (any_of HT_.out (by kernel_rfl)) (fun _ _ _ h => h) (Or.inl ⟨by rfl, ?_⟩) ?_ ?_
     rotate_left
     ·intro w'
      go_simp
      with_reducible rfl
     rotate_left
     ·simp only [Act.put, sA, sZ, sS, i64_w, i32_w]
      rfl
     refine pure_ (i := 1) (N := some 25) (v := ?_) (a' := ?_) #[Y,Y,U,U,U,U,U,U,U,U,U] rfl rfl (any_of HT_.out (by kernel_rfl)) (fun _ _ _ h => h) (Or.inl ⟨by rfl, ?_⟩) ?_ ?_
     rotate_left
     ·intro w'
      go_simp
      with_reducible rfl
     rotate_left
     ·simp only [Act.put, sA, sZ, sS, i64_w, i32_w]
      rfl
     refine pure_ (i := 2) (N := some 26) (v := ?_) (a' := ?_) #[Y,Y,Y,U,U,U,U,U,U,U,U] rfl rfl (any_of HT_.out (by kernel_rfl)) (fun _ _ _ h => h) (Or.inl ⟨by rfl, ?_⟩) ?_ ?_
     rotate_left
     ·intro w'
      go_simp
      with_reducible rfl
     rotate_left
     ·simp only [Act.put, sA, sZ, sS, i64_w, i32_w]
      rfl
     refine pure_ (i := 3) (N := some 27) (v := undef) (a' := ?_) #[Y,Y,Y,Y,U,U,U,U,U,U,U] rfl rfl (any_of HT_.out (by kernel_rfl)) (fun _ _ _ h => h) (Or.inr ⟨by rfl, rfl⟩) ?_ ?_
     rotate_left
     ·simp only [Act.put, sA, sZ, sS, i64_w, i32_w]
      rfl
     refine pure_ (i := 4) (N := some 28) (v := undef) (a' := ?_) #[Y,Y,Y,Y,Y,U,U,U,U,U,U] rfl rfl (any_of HT_.out (by kernel_rfl)) (fun _ _ _ h => h) (Or.inr ⟨by rfl, rfl⟩) ?_ ?_
     rotate_left
     ·simp only [Act.put, sA, sZ, sS, i64_w, i32_w]
      rfl
     refine pure_ (i := 5) (N := some 29) (v := undef) (a' := ?_) #[Y,Y,Y,Y,Y,Y,U,U,U,U,U] rfl rfl (any_of HT_.out (by kernel_rfl)) (fun _ _ _ h => h) (Or.inr ⟨by rfl, rfl⟩) ?_ ?_
     rotate_left
     ·simp only [Act.put, sA, sZ, sS, i64_w, i32_w]
      rfl
     refine pure_ (i := 6) (N := some 30) (v := undef) (a' := ?_) #[Y,Y,Y,Y,Y,Y,Y,U,U,U,U] rfl rfl (any_of HT_.out (by kernel_rfl)) (fun _ _ _ h => h) (Or.inr ⟨by rfl, rfl⟩) ?_ ?_
     rotate_left
     ·simp only [Act.put, sA, sZ, sS, i64_w, i32_w]
      rfl
     refine pure_ (i := 7) (N := some 31) (v := undef) (a' := ?_) #[Y,Y,Y,Y,Y,Y,Y,Y,U,U,U] rfl rfl (any_of HT_.out (by kernel_rfl)) (fun _ _ _ h => h) (Or.inr ⟨by rfl, rfl⟩) ?_ ?_
     rotate_left
     ·simp only [Act.put, sA, sZ, sS, i64_w, i32_w]
      rfl
     refine pure_ (i := 8) (N := some 32) (v := undef) (a' := ?_) #[Y,Y,Y,Y,Y,Y,Y,Y,Y,U,U] rfl rfl (any_of HT_.out (by kernel_rfl)) (fun _ _ _ h => h) (Or.inr ⟨by rfl, rfl⟩) ?_ ?_
     rotate_left
     ·simp only [Act.put, sA, sZ, sS, i64_w, i32_w]
      rfl
     refine pure_ (i := 9) (N := some 33) (v := undef) (a' := ?_) #[Y,Y,Y,Y,Y,Y,Y,Y,Y,Y,U] rfl rfl (any_of HT_.out (by kernel_rfl)) (fun _ _ _ h => h) (Or.inr ⟨by rfl, rfl⟩) ?_ ?_
     rotate_left
     ·simp only [Act.put, sA, sZ, sS, i64_w, i32_w]
      rfl
     refine pure_ (i := 10) (N := some 34) (v := ?_) (a' := ?_) #[Y,Y,Y,Y,Y,Y,Y,Y,Y,Y,Y] rfl rfl (any_of HT_.out (by kernel_rfl)) (fun _ _ _ h => h) (Or.inl ⟨by rfl, ?_⟩) ?_ ?_
     rotate_left
     ·intro w'
      go_simp
      with_reducible rfl
     rotate_left
     ·simp only [Act.put, sA, sZ, sS, i64_w, i32_w]
      rfl
     refine done_ (done_of HT_.out (by kernel_rfl)) ?_
     try go_wp2
     go_meet
     case rel => exact ⟨_, (false), xE, H', ⟨by have := HK1.out; first | omega | exact Nat.le_refl _⟩, ⟨kr HO_10.out⟩, ⟨by (with_reducible repeat (first | refine blk_drewN ?_ _ | refine blk_drew ?_ | refine blk_alloc ?_ _)); exact BK114.out⟩, ⟨bl HB.out⟩⟩
    replace c11 := Bool.eq_false_iff.mpr c11
    subst c11
    have H1 : (if 0 ≤ x12_1 then ((spec_l3Before.f ((rd_T40 l0 x12_1).f0) ((rd_T40 l0 x12_1).f1) ((rd_T40 l0 x12_1).f2) ((rd_T40 l0 x12_1).f3) a1 a2 a3 20).bind fun t119 => (spec_Hear.j1 k1 l0 a1 a2 x10_1 false x12_1 (!t119) a1 a2 a3 20)) else (none)) = some r := by rw [if_neg (show ¬ (false = true) by decide)] at H; exact H
    clear H
    have H := H1
    clear H1
    by_cases c13 : 0 ≤ x12_1
    case neg =>
     rw [if_neg c13] at H
     exact absurd H (by simp)
    rw [if_pos c13] at H
    have c13b0 : decide (0 ≤ x12_1) = true := decide_eq_true c13
    clear c13
    (first | rw [c13b0] | (simp only [i64_w, i32_w]; rw [c13b0]) | skip)
    replace H := Option.bind_eq_some_iff.mp H
    obtain ⟨t119, A140, H⟩ := H
    replace H : (spec_Hear.j1 k1 l0 a1 a2 x10_1 false x12_1 (!t119) a1 a2 a3 20) = some r := H
    have A14 := aM A140
    clear A140
    have H' := aM H
    clear H
    try go_wp2
    have n0_ := aM (Kd.R_drew HO_10.out)
    have n1_ := aM (blk_drew BK114.out)
    have n2_ := aM (below_drew1 HB.out)
    clear HO_10 BK114 HB
    have HO_10 := n0_
    have BK114 := n1_
    have HB := n2_
    clear n0_ n1_ n2_
    have p118 : 0 ≤ (x12_1 : Int) := of_decide_eq_true (by first | (with_reducible assumption) | assumption)
    have q118 : x12_1 < (l0.length : Int) := of_decide_eq_true (by first | (with_reducible assumption) | assumption)
    obtain ⟨ad118, e118, hx118_0, hx118_1, hx118_2, hx118_3⟩ := at_T40 HR0.out x12_1 p118 q118
    have hw118_3 := hx118_3
    have hw118_2 := hx118_2
    have hw118_1 := hx118_1
    have hw118_0 := hx118_0
    cases e118
    replace hx118_0 := (HB.out.cell (World.block_lt_of_cell? w _ hx118_0)).trans hx118_0
    replace hx118_1 := (HB.out.cell (World.block_lt_of_cell? w _ hx118_1)).trans hx118_1
    replace hx118_2 := (HB.out.cell (World.block_lt_of_cell? w _ hx118_2)).trans hx118_2
    replace hx118_3 := (HB.out.cell (World.block_lt_of_cell? w _ hx118_3)).trans hx118_3
    replace p118 := eq_true p118
    replace q118 := eq_true q118
    refine start_ (n := 11) (S := fun w' => w'.cell? ⟨gb114, 0, none⟩ = some (.int .i64 a1) ∧ w'.cell? ⟨gb114, 1, none⟩ = some (.int .i64 a2) ∧ w'.cell? ⟨gb114, 2, none⟩ = some (.int .i64 a3) ∧ w'.cell? ⟨gb114, 3, none⟩ = some (.int .i64 20) ∧ w'.cell? (ad118.add ((x12_1).toNat * 4)) = some (.int .i64 ((rd_T40 l0 x12_1).f0)) ∧ w'.cell? ⟨(ad118.add ((x12_1).toNat * 4)).block, (ad118.add ((x12_1).toNat * 4)).off + 1, none⟩ = some (.int .i64 ((rd_T40 l0 x12_1).f1)) ∧ w'.cell? ⟨(ad118.add ((x12_1).toNat * 4)).block, (ad118.add ((x12_1).toNat * 4)).off + 2, none⟩ = some (.int .i64 ((rd_T40 l0 x12_1).f2)) ∧ w'.cell? ⟨(ad118.add ((x12_1).toNat * 4)).block, (ad118.add ((x12_1).toNat * 4)).off + 3, none⟩ = some (.int .i64 ((rd_T40 l0 x12_1).f3))) (ds := []) #[U,U,U,U,U,U,U,U,U,U,U] (by kernel_rfl) rfl rfl ⟨cI BK114.out 0, cI BK114.out 1, cI BK114.out 2, cI BK114.out 3, ((HB.out.cell (World.block_lt_of_cell? w _ hw118_0)).trans hw118_0), ((HB.out.cell (World.block_lt_of_cell? w _ hw118_1)).trans hw118_1), ((HB.out.cell (World.block_lt_of_cell? w _ hw118_2)).trans hw118_2), ((HB.out.cell (World.block_lt_of_cell? w _ hw118_3)).trans hw118_3)⟩ (fun hHeld => ?_); refine with_tabW spec_Hear.tab7 spec_Hear.bits7 (fun HT_ HW_ => ?_)
    generalize wr.drew = w15 at HO_10 BK114 HB hx118_0 hx118_1 hx118_2 hx118_3 hHeld ⊢
    refine pure_ (i := 0) (N := some 24) (v := ?_) (a' := ?_) #[Y,U,U,U,U,U,U,U,U,U,U] rfl rfl (any_of HT_.out (by kernel_rfl)) (fun _ _ _ h => h) (Or.inl ⟨by rfl, ?_⟩) ?_ ?_
    rotate_left
    ·intro w'
     go_simp
     with_reducible rfl
    rotate_left
    ·simp only [Act.put, sA, sZ, sS, i64_w, i32_w]
     rfl
    refine pure_ (i := 1) (N := some 25) (v := ?_) (a' := ?_) #[Y,Y,U,U,U,U,U,U,U,U,U] rfl rfl (any_of HT_.out (by kernel_rfl)) (fun _ _ _ h => h) (Or.inl ⟨by rfl, ?_⟩) ?_ ?_
    rotate_left
    ·intro w'
     go_simp
     with_reducible rfl
    rotate_left
    ·simp only [Act.put, sA, sZ, sS, i64_w, i32_w]
     rfl
    refine pure_ (i := 2) (N := some 26) (v := ?_) (a' := ?_) #[Y,Y,Y,U,U,U,U,U,U,U,U] rfl rfl (any_of HT_.out (by kernel_rfl)) (fun _ _ _ h => h) (Or.inl ⟨by rfl, ?_⟩) ?_ ?_
    rotate_left
    ·intro w'
     go_simp
     with_reducible rfl
    rotate_left
    ·simp only [Act.put, sA, sZ, sS, i64_w, i32_w]
     rfl
    refine pure_ (i := 3) (N := some 27) (v := ?_) (a' := ?_) #[Y,Y,Y,Y,U,U,U,U,U,U,U] rfl rfl (any_of HT_.out (by kernel_rfl)) (fun _ _ _ h => h) (Or.inl ⟨by rfl, ?_⟩) ?_ ?_
    rotate_left
    ·intro w'
     go_simp
     with_reducible rfl
    rotate_left
    ·simp only [Act.put, sA, sZ, sS, i64_w, i32_w]
     rfl
    refine pure_ (i := 4) (N := some 28) (v := ?_) (a' := ?_) #[Y,Y,Y,Y,Y,U,U,U,U,U,U] rfl rfl (any_of HT_.out (by kernel_rfl)) (fun _ _ _ h => h) (Or.inl ⟨by rfl, ?_⟩) ?_ ?_
    rotate_left
    ·intro w'
     go_simp
     with_reducible rfl
    rotate_left
    ·simp only [Act.put, sA, sZ, sS, i64_w, i32_w]
     rfl
    refine pure_ (i := 5) (N := some 29) (v := ?_) (a' := ?_) #[Y,Y,Y,Y,Y,Y,U,U,U,U,U] rfl rfl (any_of HT_.out (by kernel_rfl)) (fun _ _ _ h => h) (Or.inl ⟨by rfl, ?_⟩) ?_ ?_
    rotate_left
    ·intro w'
     go_simp
     with_reducible rfl
    rotate_left
    ·simp only [Act.put, sA, sZ, sS, i64_w, i32_w]
     rfl
    refine take_ (i := 6) (N := some 30) (v := ?_) (a' := ?_) #[Y,Y,Y,Y,Y,Y,Y,U,U,U,U] rfl rfl (take_ofW HT_.out HW_.out (by kernel_rfl)) (fun _ _ _ h => h) (Or.inl ⟨by rfl, ?_⟩) hHeld ?_ ?_
    rotate_left
    ·rintro w' ⟨s0, s1, s2, s3, s4, s5, s6, s7⟩
     go_simp
     with_reducible rfl
    rotate_left
    ·simp only [Act.put, sA, sZ, sS, i64_w, i32_w]
     rfl
    refine take_ (i := 7) (N := some 31) (v := ?_) (a' := ?_) #[Y,Y,Y,Y,Y,Y,Y,Y,U,U,U] rfl rfl (take_ofW HT_.out HW_.out (by kernel_rfl)) (fun _ _ _ h => h) (Or.inl ⟨by rfl, ?_⟩) hHeld ?_ ?_
    rotate_left
    ·rintro w' ⟨s0, s1, s2, s3, s4, s5, s6, s7⟩
     go_simp
     with_reducible rfl
    rotate_left
    ·simp only [Act.put, sA, sZ, sS, i64_w, i32_w]
     rfl
    refine one_ (i := 8) (N := some 32) #[Y,Y,Y,Y,Y,Y,Y,Y,Y,U,U] rfl rfl (one_of HT_.out (by kernel_rfl)) (by decide) (fun K hK => ?_)
    refine goes_ Try.func80 (by kernel_rfl) rfl #[.agg #[.int .i64 ((rd_T40 l0 x12_1).f0), .int .i64 ((rd_T40 l0 x12_1).f1), .int .i64 ((rd_T40 l0 x12_1).f2), .int .i64 ((rd_T40 l0 x12_1).f3)], .agg #[.int .i64 a1, .int .i64 a2, .int .i64 a3, .int .i64 20]] (by rfl) rfl rfl xR ?_
    with_reducible refine (spec_l3Before.calls ((rd_T40 l0 x12_1).f0) ((rd_T40 l0 x12_1).f1) ((rd_T40 l0 x12_1).f2) ((rd_T40 l0 x12_1).f3) a1 a2 a3 20 t119 _ A14.out).mono ?_
    rintro e w16 ⟨rfl, hb⟩
    refine ⟨_, rfl, ?_⟩
    have n0_ := aM (kB (kr HO_10.out) hb)
    have n1_ := aM (bB (g := gb114) (o := .cells #[.int .i64 a1, .int .i64 a2, .int .i64 a3, .int .i64 20] 40 (0, 0)) (bk BK114.out) hb)
    have n2_ := aM (bS (bl HB.out) hb)
    clear HO_10 BK114 HB
    have HO_10 := n0_
    have BK114 := n1_
    have HB := n2_
    clear n0_ n1_ n2_
    (try clear hb)
    (try clear hb2)
    (try clear hk)
    (try clear hi)
    refine hK.out _ _ ⟨cI BK114.out 0, cI BK114.out 1, cI BK114.out 2, cI BK114.out 3, ((HB.out.cell (World.block_lt_of_cell? w _ hw118_0)).trans hw118_0), ((HB.out.cell (World.block_lt_of_cell? w _ hw118_1)).trans hw118_1), ((HB.out.cell (World.block_lt_of_cell? w _ hw118_2)).trans hw118_2), ((HB.out.cell (World.block_lt_of_cell? w _ hw118_3)).trans hw118_3)⟩ (fun hHeld => ?_)
    clear hK K
    refine norm_ (a' := ?_) ?_ ?_
    rotate_left
    ·show Act.put _ (some 32) _ = _
     simp only [Act.put, sA, sZ, sS, i64_w, i32_w]
     rfl
    refine pure_ (i := 9) (N := some 33) (v := ?_) (a' := ?_) #[Y,Y,Y,Y,Y,Y,Y,Y,Y,Y,U] rfl rfl (any_of HT_.out (by kernel_rfl)) (fun _ _ _ h => h) (Or.inl ⟨by rfl, ?_⟩) ?_ ?_
    rotate_left
    ·intro w'
     go_simp
     with_reducible rfl
    rotate_left
    ·simp only [Act.put, sA, sZ, sS, i64_w, i32_w]
     rfl
    refine pure_ (i := 10) (N := some 34) (v := ?_) (a' := ?_) #[Y,Y,Y,Y,Y,Y,Y,Y,Y,Y,Y] rfl rfl (any_of HT_.out (by kernel_rfl)) (fun _ _ _ h => h) (Or.inl ⟨by rfl, ?_⟩) ?_ ?_
    rotate_left
    ·intro w'
     go_simp
     with_reducible rfl
    rotate_left
    ·simp only [Act.put, sA, sZ, sS, i64_w, i32_w]
     rfl
    refine done_ (done_of HT_.out (by kernel_rfl)) ?_
    try go_wp2
    go_meet
    case rel => exact ⟨_, (!t119), xE, H', ⟨by have := HK1.out; first | omega | exact Nat.le_refl _⟩, ⟨kr HO_10.out⟩, ⟨by (with_reducible repeat (first | refine blk_drewN ?_ _ | refine blk_drew ?_ | refine blk_alloc ?_ _)); exact BK114.out⟩, ⟨bl HB.out⟩⟩
   case rest =>
    clear HC10
    try clear c1
    try clear p1
    try clear q1
    try clear hx1
    try clear c2
    try clear p2
    try clear c8
    try clear c9
    try clear c9b0
    try clear c11
    try clear p11
    try clear q11
    try clear hx11
    try clear c13
    try clear c13b0
    try clear hcz6_0
    try clear hcz6_1
    try clear hcz6_2
    try clear hcz6_3
    try clear hfz6_0
    try clear hfz6_1
    try clear hfz6_2
    try clear hfz6_3
    try clear hx118_0
    try clear hx118_1
    try clear hx118_2
    try clear hx118_3
    try clear p118
    try clear p2
    try clear q118
    obtain ⟨kq, x34_9, rfl, HA, HJ9, HO_10, BK114, HB⟩ := hcut
    cases kq with
    | zero => exact absurd HA.out (by simp [spec_Hear.j1])
    | succ kj9 =>
     have H := HA.out
     clear HA
     simp only [spec_Hear.j1] at H
     by_cases c17 : x34_9 = true
     case pos =>
      subst c17
      have H1 : (if x10_1.length < 4398046511104 then ((some (x10_1 ++ [(⟨a1, a2, a3, 20⟩ : S40)] : List (S40))).bind fun y120 => (if 0 ≤ x12_1 then (if x12_1 < (l0.length : Int) then (if ((rd_T40 l0 x12_1).f0) = a1 then (if ((rd_T40 l0 x12_1).f1) = a2 then (spec_Hear.l0 kj9 l0 a1 a2 y120 true (wrap64 (x12_1 + 1)) a1 a2 a3 20) else (if y120.length < 4398046511104 then (spec_Hear.l0 kj9 l0 a1 a2 (y120 ++ [(⟨(rd_T40 l0 x12_1).f0, (rd_T40 l0 x12_1).f1, (rd_T40 l0 x12_1).f2, (rd_T40 l0 x12_1).f3⟩ : S40)]) true (wrap64 (x12_1 + 1)) a1 a2 a3 20) else (none))) else (if y120.length < 4398046511104 then (spec_Hear.l0 kj9 l0 a1 a2 (y120 ++ [(⟨(rd_T40 l0 x12_1).f0, (rd_T40 l0 x12_1).f1, (rd_T40 l0 x12_1).f2, (rd_T40 l0 x12_1).f3⟩ : S40)]) true (wrap64 (x12_1 + 1)) a1 a2 a3 20) else (none))) else (none)) else (none))) else (none)) = some r := by rw [if_pos rfl] at H; exact H
      clear H
      have H := H1
      clear H1
      by_cases c18 : x10_1.length < 4398046511104
      case neg =>
       rw [if_neg c18] at H
       exact absurd H (by simp)
      rw [if_pos c18] at H
      have LMc18 := aM c18
      clear c18
      obtain ⟨y120, hy120⟩ : ∃ y_ : List (S40), y_ = (x10_1 ++ [(⟨a1, a2, a3, 20⟩ : S40)]) := ⟨_, rfl⟩
      replace H : (if 0 ≤ x12_1 then (if x12_1 < (l0.length : Int) then (if ((rd_T40 l0 x12_1).f0) = a1 then (if ((rd_T40 l0 x12_1).f1) = a2 then (spec_Hear.l0 kj9 l0 a1 a2 y120 true (wrap64 (x12_1 + 1)) a1 a2 a3 20) else (if y120.length < 4398046511104 then (spec_Hear.l0 kj9 l0 a1 a2 (y120 ++ [(⟨(rd_T40 l0 x12_1).f0, (rd_T40 l0 x12_1).f1, (rd_T40 l0 x12_1).f2, (rd_T40 l0 x12_1).f3⟩ : S40)]) true (wrap64 (x12_1 + 1)) a1 a2 a3 20) else (none))) else (if y120.length < 4398046511104 then (spec_Hear.l0 kj9 l0 a1 a2 (y120 ++ [(⟨(rd_T40 l0 x12_1).f0, (rd_T40 l0 x12_1).f1, (rd_T40 l0 x12_1).f2, (rd_T40 l0 x12_1).f3⟩ : S40)]) true (wrap64 (x12_1 + 1)) a1 a2 a3 20) else (none))) else (none)) else (none)) = some r := by first | (rw [hy120]; with_reducible exact H) | (have H2_ := (Option.bind_some _ _).symm.trans H; rw [hy120]; with_reducible exact H2_) | (have H2_ := (Option.bind_some _ _).symm.trans H; with_reducible exact H2_) | with_reducible exact H | (rw [hy120]; exact H) | exact H
      have Ny120 := aM hy120
      clear hy120
      by_cases c19 : 0 ≤ x12_1
      case neg =>
       rw [if_neg c19] at H
       exact absurd H (by simp)
      rw [if_pos c19] at H
      have c19b0 : decide (0 ≤ x12_1) = true := decide_eq_true c19
      clear c19
      by_cases c20 : x12_1 < (l0.length : Int)
      case neg =>
       rw [if_neg c20] at H
       exact absurd H (by simp)
      rw [if_pos c20] at H
      have c20b0 : decide (x12_1 < (l0.length : Int)) = true := decide_eq_true c20
      clear c20
      by_cases c21 : ((rd_T40 l0 x12_1).f0) = a1
      case neg =>
       rw [if_neg c21] at H
       have c21b0 : (((rd_T40 l0 x12_1).f0) == a1) = false := beq_eq_false_iff_ne.mpr c21
       have c21b1 : (((rd_T40 l0 x12_1).f0) != a1) = true := bne_iff_ne.mpr c21
       by_cases c29 : y120.length < 4398046511104
       case neg =>
        rw [if_neg c29] at H
        exact absurd H (by simp)
       rw [if_pos c29] at H
       have LMc29 := aM c29
       clear c29
       obtain ⟨y130, hy130⟩ : ∃ y_ : List (S40), y_ = (y120 ++ [(⟨(rd_T40 l0 x12_1).f0, (rd_T40 l0 x12_1).f1, (rd_T40 l0 x12_1).f2, (rd_T40 l0 x12_1).f3⟩ : S40)]) := ⟨_, rfl⟩
       replace H : (spec_Hear.l0 kj9 l0 a1 a2 y130 true (wrap64 (x12_1 + 1)) a1 a2 a3 20) = some r := by first | (rw [hy130]; with_reducible exact H) | (have H2_ := (Option.bind_some _ _).symm.trans H; rw [hy130]; with_reducible exact H2_) | (have H2_ := (Option.bind_some _ _).symm.trans H; with_reducible exact H2_) | with_reducible exact H | (rw [hy130]; exact H) | exact H
       have Ny130 := aM hy130
       clear hy130
       have H' := aM H
       clear H
       have hcz30_0 := cI BK114.out 0
       have hcz30_1 := cI BK114.out 1
       have hcz30_2 := cI BK114.out 2
       have hcz30_3 := cI BK114.out 3
       have hfz30_0 := bF BK114.out 0
       have hfz30_1 := bF BK114.out 1
       have hfz30_2 := bF BK114.out 2
       have hfz30_3 := bF BK114.out 3
       go_wp2_with (first | ((with_reducible refine gate_builtin (b := .append) (xs := #[.tmp 35, .tmp 37]) rfl ?_); at_builtin; refine Kd.R_append k40 (w0 := w) w.heap.size rfl (.tmp 35) (.tmp 37) 24 40 (.agg #[(.int .i64 0), (.int .i64 0), (.int .i64 0), (.int .i64 0)]) 32 rfl Try.underlying24 info40 rfl (by decide) (by omega) u10 x10_1 (⟨a1, a2, a3, 20⟩ : S40) [.int .i64 a1, .int .i64 a2, .int .i64 a3, .int .i64 20] (fun k_ => k_ ≠ gb114) (fun _ => False) rfl rfl ?aP (fun _ hk => hk.elim) ?aF ?aO ?aB ?aS ?aL ?_; (case aP => exact k40_mkM _ _ _ (⟨a1, a2, a3, 20⟩ : S40)); (case aB => exact (bl HB.out)); (case aF => exact (fun k_ hk => Kd.freshB (g := gb114) (o := .cells #[.int .i64 a1, .int .i64 a2, .int .i64 a3, .int .i64 20] 40 (0, 0)) (bk BK114.out) k_ hk)); (case aO => exact (kr HO_10.out)); (case aS => exact (below_size (bl HB.out))); (case aL => have := LMc18.out; omega); intro v121 w31 ho hb hg hat; rw [← Ny120.out] at ho; have n0_ := aM (blk_grown (g := gb114) (o := .cells #[.int .i64 a1, .int .i64 a2, .int .i64 a3, .int .i64 20] 40 (0, 0)) (bk BK114.out) hg (Kd.R_away HO_10.out (fun _ hk => hk))); have n1_ := aM (hb); have n2_ := aM (ho); clear BK114 HB HO_10; have BK114 := n0_; have HB := n1_; have HO122 := n2_; clear n0_ n1_ n2_; clear ho hb hg hat; have p123 : 0 ≤ (x12_1 : Int) := of_decide_eq_true (by first | (with_reducible assumption) | assumption); have q123 : x12_1 < (l0.length : Int) := of_decide_eq_true (by first | (with_reducible assumption) | assumption); obtain ⟨ad123, e123, hx123_0, hx123_1, hx123_2, hx123_3⟩ := at_T40 HR0.out x12_1 p123 q123; cases e123; replace hx123_0 := (HB.out.cell (World.block_lt_of_cell? w _ hx123_0)).trans hx123_0; replace hx123_1 := (HB.out.cell (World.block_lt_of_cell? w _ hx123_1)).trans hx123_1; replace hx123_2 := (HB.out.cell (World.block_lt_of_cell? w _ hx123_2)).trans hx123_2; replace hx123_3 := (HB.out.cell (World.block_lt_of_cell? w _ hx123_3)).trans hx123_3; replace p123 := eq_true p123; replace q123 := eq_true q123; have p129 : 0 ≤ (x12_1 : Int) := of_decide_eq_true (by first | (with_reducible assumption) | assumption); have q129 : x12_1 < (l0.length : Int) := of_decide_eq_true (by first | (with_reducible assumption) | assumption); obtain ⟨ad129, e129, hx129_0, hx129_1, hx129_2, hx129_3⟩ := at_T40 HR0.out x12_1 p129 q129; obtain rfl : ad123 = ad129 := (by injection e129); replace hx129_0 := (HB.out.cell (World.block_lt_of_cell? w _ hx129_0)).trans hx129_0; replace hx129_1 := (HB.out.cell (World.block_lt_of_cell? w _ hx129_1)).trans hx129_1; replace hx129_2 := (HB.out.cell (World.block_lt_of_cell? w _ hx129_2)).trans hx129_2; replace hx129_3 := (HB.out.cell (World.block_lt_of_cell? w _ hx129_3)).trans hx129_3; replace p129 := eq_true p129; replace q129 := eq_true q129) | ((with_reducible refine gate_builtin (b := .append) (xs := #[.tmp 55, .tmp 60]) rfl ?_); at_builtin; refine Kd.R_append k40 (w0 := w) w.heap.size rfl (.tmp 55) (.tmp 60) 24 40 (.agg #[(.int .i64 0), (.int .i64 0), (.int .i64 0), (.int .i64 0)]) 32 rfl Try.underlying24 info40 rfl (by decide) (by omega) v121 y120 (⟨(rd_T40 l0 x12_1).f0, (rd_T40 l0 x12_1).f1, (rd_T40 l0 x12_1).f2, (rd_T40 l0 x12_1).f3⟩ : S40) [.int .i64 ((rd_T40 l0 x12_1).f0), .int .i64 ((rd_T40 l0 x12_1).f1), .int .i64 ((rd_T40 l0 x12_1).f2), .int .i64 ((rd_T40 l0 x12_1).f3)] (fun k_ => k_ ≠ gb114) (fun _ => False) rfl rfl ?aP (fun _ hk => hk.elim) ?aF ?aO ?aB ?aS ?aL ?_; (case aP => exact k40_mkM _ _ _ (⟨(rd_T40 l0 x12_1).f0, (rd_T40 l0 x12_1).f1, (rd_T40 l0 x12_1).f2, (rd_T40 l0 x12_1).f3⟩ : S40)); (case aB => exact (bl HB.out)); (case aF => exact (fun k_ hk => Kd.freshB (g := gb114) (o := .cells #[.int .i64 a1, .int .i64 a2, .int .i64 a3, .int .i64 20] 40 (0, 0)) (bk BK114.out) k_ hk)); (case aO => exact (kr HO122.out)); (case aS => exact (below_size (bl HB.out))); (case aL => have := LMc29.out; omega); intro v131 w32 ho hb hg hat; rw [← Ny130.out] at ho; have n0_ := aM (blk_grown (g := gb114) (o := .cells #[.int .i64 a1, .int .i64 a2, .int .i64 a3, .int .i64 20] 40 (0, 0)) (bk BK114.out) hg (Kd.R_away HO122.out (fun _ hk => hk))); have n1_ := aM (hb); have n2_ := aM (ho); clear BK114 HB HO122; have BK114 := n0_; have HB := n1_; have HO132 := n2_; clear n0_ n1_ n2_; clear ho hb hg hat))
       go_roundg kj9
       case measure => have := HK1.out; have := HJ9.out; omega
       case rel => exact ⟨(y130), (true), (wrap64 (x12_1 + 1)), xE, xE, H', ⟨by have := HK1.out; have := HJ9.out; omega⟩, ⟨kr HO132.out⟩, ⟨by (with_reducible repeat (first | refine blk_drewN ?_ _ | refine blk_drew ?_ | refine blk_alloc ?_ _)); exact BK114.out⟩, ⟨bl HB.out⟩⟩
      rw [if_pos c21] at H
      have c21b0 : (((rd_T40 l0 x12_1).f0) == a1) = true := beq_iff_eq.mpr c21
      have c21b1 : (((rd_T40 l0 x12_1).f0) != a1) = false := bne_eq_false_iff_eq.mpr c21
      clear c21
      by_cases c22 : ((rd_T40 l0 x12_1).f1) = a2
      case pos =>
       rw [if_pos c22] at H
       have c22b0 : (((rd_T40 l0 x12_1).f1) == a2) = true := beq_iff_eq.mpr c22
       have c22b1 : (((rd_T40 l0 x12_1).f1) != a2) = false := bne_eq_false_iff_eq.mpr c22
       clear c22
       have H' := aM H
       clear H
       have hcz23_0 := cI BK114.out 0
       have hcz23_1 := cI BK114.out 1
       have hcz23_2 := cI BK114.out 2
       have hcz23_3 := cI BK114.out 3
       have hfz23_0 := bF BK114.out 0
       have hfz23_1 := bF BK114.out 1
       have hfz23_2 := bF BK114.out 2
       have hfz23_3 := bF BK114.out 3
       go_wp2_with (first | ((with_reducible refine gate_builtin (b := .append) (xs := #[.tmp 35, .tmp 37]) rfl ?_); at_builtin; refine Kd.R_append k40 (w0 := w) w.heap.size rfl (.tmp 35) (.tmp 37) 24 40 (.agg #[(.int .i64 0), (.int .i64 0), (.int .i64 0), (.int .i64 0)]) 32 rfl Try.underlying24 info40 rfl (by decide) (by omega) u10 x10_1 (⟨a1, a2, a3, 20⟩ : S40) [.int .i64 a1, .int .i64 a2, .int .i64 a3, .int .i64 20] (fun k_ => k_ ≠ gb114) (fun _ => False) rfl rfl ?aP (fun _ hk => hk.elim) ?aF ?aO ?aB ?aS ?aL ?_; (case aP => exact k40_mkM _ _ _ (⟨a1, a2, a3, 20⟩ : S40)); (case aB => exact (bl HB.out)); (case aF => exact (fun k_ hk => Kd.freshB (g := gb114) (o := .cells #[.int .i64 a1, .int .i64 a2, .int .i64 a3, .int .i64 20] 40 (0, 0)) (bk BK114.out) k_ hk)); (case aO => exact (kr HO_10.out)); (case aS => exact (below_size (bl HB.out))); (case aL => have := LMc18.out; omega); intro v121 w24 ho hb hg hat; rw [← Ny120.out] at ho; have n0_ := aM (blk_grown (g := gb114) (o := .cells #[.int .i64 a1, .int .i64 a2, .int .i64 a3, .int .i64 20] 40 (0, 0)) (bk BK114.out) hg (Kd.R_away HO_10.out (fun _ hk => hk))); have n1_ := aM (hb); have n2_ := aM (ho); clear BK114 HB HO_10; have BK114 := n0_; have HB := n1_; have HO122 := n2_; clear n0_ n1_ n2_; clear ho hb hg hat; have p123 : 0 ≤ (x12_1 : Int) := of_decide_eq_true (by first | (with_reducible assumption) | assumption); have q123 : x12_1 < (l0.length : Int) := of_decide_eq_true (by first | (with_reducible assumption) | assumption); obtain ⟨ad123, e123, hx123_0, hx123_1, hx123_2, hx123_3⟩ := at_T40 HR0.out x12_1 p123 q123; cases e123; replace hx123_0 := (HB.out.cell (World.block_lt_of_cell? w _ hx123_0)).trans hx123_0; replace hx123_1 := (HB.out.cell (World.block_lt_of_cell? w _ hx123_1)).trans hx123_1; replace hx123_2 := (HB.out.cell (World.block_lt_of_cell? w _ hx123_2)).trans hx123_2; replace hx123_3 := (HB.out.cell (World.block_lt_of_cell? w _ hx123_3)).trans hx123_3; replace p123 := eq_true p123; replace q123 := eq_true q123; have p124 : 0 ≤ (x12_1 : Int) := of_decide_eq_true (by first | (with_reducible assumption) | assumption); have q124 : x12_1 < (l0.length : Int) := of_decide_eq_true (by first | (with_reducible assumption) | assumption); obtain ⟨ad124, e124, hx124_0, hx124_1, hx124_2, hx124_3⟩ := at_T40 HR0.out x12_1 p124 q124; obtain rfl : ad123 = ad124 := (by injection e124); replace hx124_0 := (HB.out.cell (World.block_lt_of_cell? w _ hx124_0)).trans hx124_0; replace hx124_1 := (HB.out.cell (World.block_lt_of_cell? w _ hx124_1)).trans hx124_1; replace hx124_2 := (HB.out.cell (World.block_lt_of_cell? w _ hx124_2)).trans hx124_2; replace hx124_3 := (HB.out.cell (World.block_lt_of_cell? w _ hx124_3)).trans hx124_3; replace p124 := eq_true p124; replace q124 := eq_true q124))
       go_roundg kj9
       case measure => have := HK1.out; have := HJ9.out; omega
       case rel => exact ⟨(y120), (true), (wrap64 (x12_1 + 1)), xE, xE, H', ⟨by have := HK1.out; have := HJ9.out; omega⟩, ⟨kr HO122.out⟩, ⟨by (with_reducible repeat (first | refine blk_drewN ?_ _ | refine blk_drew ?_ | refine blk_alloc ?_ _)); exact BK114.out⟩, ⟨bl HB.out⟩⟩
      rw [if_neg c22] at H
      have c22b0 : (((rd_T40 l0 x12_1).f1) == a2) = false := beq_eq_false_iff_ne.mpr c22
      have c22b1 : (((rd_T40 l0 x12_1).f1) != a2) = true := bne_iff_ne.mpr c22
      by_cases c25 : y120.length < 4398046511104
      case neg =>
       rw [if_neg c25] at H
       exact absurd H (by simp)
      rw [if_pos c25] at H
      have LMc25 := aM c25
      clear c25
      obtain ⟨y126, hy126⟩ : ∃ y_ : List (S40), y_ = (y120 ++ [(⟨(rd_T40 l0 x12_1).f0, (rd_T40 l0 x12_1).f1, (rd_T40 l0 x12_1).f2, (rd_T40 l0 x12_1).f3⟩ : S40)]) := ⟨_, rfl⟩
      replace H : (spec_Hear.l0 kj9 l0 a1 a2 y126 true (wrap64 (x12_1 + 1)) a1 a2 a3 20) = some r := by first | (rw [hy126]; with_reducible exact H) | (have H2_ := (Option.bind_some _ _).symm.trans H; rw [hy126]; with_reducible exact H2_) | (have H2_ := (Option.bind_some _ _).symm.trans H; with_reducible exact H2_) | with_reducible exact H | (rw [hy126]; exact H) | exact H
      have Ny126 := aM hy126
      clear hy126
      have H' := aM H
      clear H
      have hcz26_0 := cI BK114.out 0
      have hcz26_1 := cI BK114.out 1
      have hcz26_2 := cI BK114.out 2
      have hcz26_3 := cI BK114.out 3
      have hfz26_0 := bF BK114.out 0
      have hfz26_1 := bF BK114.out 1
      have hfz26_2 := bF BK114.out 2
      have hfz26_3 := bF BK114.out 3
      go_wp2_with (first | ((with_reducible refine gate_builtin (b := .append) (xs := #[.tmp 35, .tmp 37]) rfl ?_); at_builtin; refine Kd.R_append k40 (w0 := w) w.heap.size rfl (.tmp 35) (.tmp 37) 24 40 (.agg #[(.int .i64 0), (.int .i64 0), (.int .i64 0), (.int .i64 0)]) 32 rfl Try.underlying24 info40 rfl (by decide) (by omega) u10 x10_1 (⟨a1, a2, a3, 20⟩ : S40) [.int .i64 a1, .int .i64 a2, .int .i64 a3, .int .i64 20] (fun k_ => k_ ≠ gb114) (fun _ => False) rfl rfl ?aP (fun _ hk => hk.elim) ?aF ?aO ?aB ?aS ?aL ?_; (case aP => exact k40_mkM _ _ _ (⟨a1, a2, a3, 20⟩ : S40)); (case aB => exact (bl HB.out)); (case aF => exact (fun k_ hk => Kd.freshB (g := gb114) (o := .cells #[.int .i64 a1, .int .i64 a2, .int .i64 a3, .int .i64 20] 40 (0, 0)) (bk BK114.out) k_ hk)); (case aO => exact (kr HO_10.out)); (case aS => exact (below_size (bl HB.out))); (case aL => have := LMc18.out; omega); intro v121 w27 ho hb hg hat; rw [← Ny120.out] at ho; have n0_ := aM (blk_grown (g := gb114) (o := .cells #[.int .i64 a1, .int .i64 a2, .int .i64 a3, .int .i64 20] 40 (0, 0)) (bk BK114.out) hg (Kd.R_away HO_10.out (fun _ hk => hk))); have n1_ := aM (hb); have n2_ := aM (ho); clear BK114 HB HO_10; have BK114 := n0_; have HB := n1_; have HO122 := n2_; clear n0_ n1_ n2_; clear ho hb hg hat; have p123 : 0 ≤ (x12_1 : Int) := of_decide_eq_true (by first | (with_reducible assumption) | assumption); have q123 : x12_1 < (l0.length : Int) := of_decide_eq_true (by first | (with_reducible assumption) | assumption); obtain ⟨ad123, e123, hx123_0, hx123_1, hx123_2, hx123_3⟩ := at_T40 HR0.out x12_1 p123 q123; cases e123; replace hx123_0 := (HB.out.cell (World.block_lt_of_cell? w _ hx123_0)).trans hx123_0; replace hx123_1 := (HB.out.cell (World.block_lt_of_cell? w _ hx123_1)).trans hx123_1; replace hx123_2 := (HB.out.cell (World.block_lt_of_cell? w _ hx123_2)).trans hx123_2; replace hx123_3 := (HB.out.cell (World.block_lt_of_cell? w _ hx123_3)).trans hx123_3; replace p123 := eq_true p123; replace q123 := eq_true q123; have p124 : 0 ≤ (x12_1 : Int) := of_decide_eq_true (by first | (with_reducible assumption) | assumption); have q124 : x12_1 < (l0.length : Int) := of_decide_eq_true (by first | (with_reducible assumption) | assumption); obtain ⟨ad124, e124, hx124_0, hx124_1, hx124_2, hx124_3⟩ := at_T40 HR0.out x12_1 p124 q124; obtain rfl : ad123 = ad124 := (by injection e124); replace hx124_0 := (HB.out.cell (World.block_lt_of_cell? w _ hx124_0)).trans hx124_0; replace hx124_1 := (HB.out.cell (World.block_lt_of_cell? w _ hx124_1)).trans hx124_1; replace hx124_2 := (HB.out.cell (World.block_lt_of_cell? w _ hx124_2)).trans hx124_2; replace hx124_3 := (HB.out.cell (World.block_lt_of_cell? w _ hx124_3)).trans hx124_3; replace p124 := eq_true p124; replace q124 := eq_true q124; have p125 : 0 ≤ (x12_1 : Int) := of_decide_eq_true (by first | (with_reducible assumption) | assumption); have q125 : x12_1 < (l0.length : Int) := of_decide_eq_true (by first | (with_reducible assumption) | assumption); obtain ⟨ad125, e125, hx125_0, hx125_1, hx125_2, hx125_3⟩ := at_T40 HR0.out x12_1 p125 q125; obtain rfl : ad123 = ad125 := (by injection e125); replace hx125_0 := (HB.out.cell (World.block_lt_of_cell? w _ hx125_0)).trans hx125_0; replace hx125_1 := (HB.out.cell (World.block_lt_of_cell? w _ hx125_1)).trans hx125_1; replace hx125_2 := (HB.out.cell (World.block_lt_of_cell? w _ hx125_2)).trans hx125_2; replace hx125_3 := (HB.out.cell (World.block_lt_of_cell? w _ hx125_3)).trans hx125_3; replace p125 := eq_true p125; replace q125 := eq_true q125) | ((with_reducible refine gate_builtin (b := .append) (xs := #[.tmp 55, .tmp 60]) rfl ?_); at_builtin; refine Kd.R_append k40 (w0 := w) w.heap.size rfl (.tmp 55) (.tmp 60) 24 40 (.agg #[(.int .i64 0), (.int .i64 0), (.int .i64 0), (.int .i64 0)]) 32 rfl Try.underlying24 info40 rfl (by decide) (by omega) v121 y120 (⟨(rd_T40 l0 x12_1).f0, (rd_T40 l0 x12_1).f1, (rd_T40 l0 x12_1).f2, (rd_T40 l0 x12_1).f3⟩ : S40) [.int .i64 ((rd_T40 l0 x12_1).f0), .int .i64 ((rd_T40 l0 x12_1).f1), .int .i64 ((rd_T40 l0 x12_1).f2), .int .i64 ((rd_T40 l0 x12_1).f3)] (fun k_ => k_ ≠ gb114) (fun _ => False) rfl rfl ?aP (fun _ hk => hk.elim) ?aF ?aO ?aB ?aS ?aL ?_; (case aP => exact k40_mkM _ _ _ (⟨(rd_T40 l0 x12_1).f0, (rd_T40 l0 x12_1).f1, (rd_T40 l0 x12_1).f2, (rd_T40 l0 x12_1).f3⟩ : S40)); (case aB => exact (bl HB.out)); (case aF => exact (fun k_ hk => Kd.freshB (g := gb114) (o := .cells #[.int .i64 a1, .int .i64 a2, .int .i64 a3, .int .i64 20] 40 (0, 0)) (bk BK114.out) k_ hk)); (case aO => exact (kr HO122.out)); (case aS => exact (below_size (bl HB.out))); (case aL => have := LMc25.out; omega); intro v127 w28 ho hb hg hat; rw [← Ny126.out] at ho; have n0_ := aM (blk_grown (g := gb114) (o := .cells #[.int .i64 a1, .int .i64 a2, .int .i64 a3, .int .i64 20] 40 (0, 0)) (bk BK114.out) hg (Kd.R_away HO122.out (fun _ hk => hk))); have n1_ := aM (hb); have n2_ := aM (ho); clear BK114 HB HO122; have BK114 := n0_; have HB := n1_; have HO128 := n2_; clear n0_ n1_ n2_; clear ho hb hg hat))
      go_roundg kj9
      case measure => have := HK1.out; have := HJ9.out; omega
      case rel => exact ⟨(y126), (true), (wrap64 (x12_1 + 1)), xE, xE, H', ⟨by have := HK1.out; have := HJ9.out; omega⟩, ⟨kr HO128.out⟩, ⟨by (with_reducible repeat (first | refine blk_drewN ?_ _ | refine blk_drew ?_ | refine blk_alloc ?_ _)); exact BK114.out⟩, ⟨bl HB.out⟩⟩
     replace c17 := Bool.eq_false_iff.mpr c17
     subst c17
     have H1 : (if 0 ≤ x12_1 then (if x12_1 < (l0.length : Int) then (if ((rd_T40 l0 x12_1).f0) = a1 then (if ((rd_T40 l0 x12_1).f1) = a2 then (spec_Hear.l0 kj9 l0 a1 a2 x10_1 x11_1 (wrap64 (x12_1 + 1)) a1 a2 a3 20) else (if x10_1.length < 4398046511104 then (spec_Hear.l0 kj9 l0 a1 a2 (x10_1 ++ [(⟨(rd_T40 l0 x12_1).f0, (rd_T40 l0 x12_1).f1, (rd_T40 l0 x12_1).f2, (rd_T40 l0 x12_1).f3⟩ : S40)]) x11_1 (wrap64 (x12_1 + 1)) a1 a2 a3 20) else (none))) else (if x10_1.length < 4398046511104 then (spec_Hear.l0 kj9 l0 a1 a2 (x10_1 ++ [(⟨(rd_T40 l0 x12_1).f0, (rd_T40 l0 x12_1).f1, (rd_T40 l0 x12_1).f2, (rd_T40 l0 x12_1).f3⟩ : S40)]) x11_1 (wrap64 (x12_1 + 1)) a1 a2 a3 20) else (none))) else (none)) else (none)) = some r := by rw [if_neg (show ¬ (false = true) by decide)] at H; exact H
     clear H
     have H := H1
     clear H1
     by_cases c33 : 0 ≤ x12_1
     case neg =>
      rw [if_neg c33] at H
      exact absurd H (by simp)
     rw [if_pos c33] at H
     have c33b0 : decide (0 ≤ x12_1) = true := decide_eq_true c33
     clear c33
     by_cases c34 : x12_1 < (l0.length : Int)
     case neg =>
      rw [if_neg c34] at H
      exact absurd H (by simp)
     rw [if_pos c34] at H
     have c34b0 : decide (x12_1 < (l0.length : Int)) = true := decide_eq_true c34
     clear c34
     by_cases c35 : ((rd_T40 l0 x12_1).f0) = a1
     case neg =>
      rw [if_neg c35] at H
      have c35b0 : (((rd_T40 l0 x12_1).f0) == a1) = false := beq_eq_false_iff_ne.mpr c35
      have c35b1 : (((rd_T40 l0 x12_1).f0) != a1) = true := bne_iff_ne.mpr c35
      by_cases c39 : x10_1.length < 4398046511104
      case neg =>
       rw [if_neg c39] at H
       exact absurd H (by simp)
      rw [if_pos c39] at H
      have LMc39 := aM c39
      clear c39
      obtain ⟨y140, hy140⟩ : ∃ y_ : List (S40), y_ = (x10_1 ++ [(⟨(rd_T40 l0 x12_1).f0, (rd_T40 l0 x12_1).f1, (rd_T40 l0 x12_1).f2, (rd_T40 l0 x12_1).f3⟩ : S40)]) := ⟨_, rfl⟩
      replace H : (spec_Hear.l0 kj9 l0 a1 a2 y140 x11_1 (wrap64 (x12_1 + 1)) a1 a2 a3 20) = some r := by first | (rw [hy140]; with_reducible exact H) | (have H2_ := (Option.bind_some _ _).symm.trans H; rw [hy140]; with_reducible exact H2_) | (have H2_ := (Option.bind_some _ _).symm.trans H; with_reducible exact H2_) | with_reducible exact H | (rw [hy140]; exact H) | exact H
      have Ny140 := aM hy140
      clear hy140
      have H' := aM H
      clear H
      have p133 : 0 ≤ (x12_1 : Int) := of_decide_eq_true (by first | (with_reducible assumption) | assumption)
      have q133 : x12_1 < (l0.length : Int) := of_decide_eq_true (by first | (with_reducible assumption) | assumption)
      obtain ⟨ad133, e133, hx133_0, hx133_1, hx133_2, hx133_3⟩ := at_T40 HR0.out x12_1 p133 q133
      cases e133
      replace hx133_0 := (HB.out.cell (World.block_lt_of_cell? w _ hx133_0)).trans hx133_0
      replace hx133_1 := (HB.out.cell (World.block_lt_of_cell? w _ hx133_1)).trans hx133_1
      replace hx133_2 := (HB.out.cell (World.block_lt_of_cell? w _ hx133_2)).trans hx133_2
      replace hx133_3 := (HB.out.cell (World.block_lt_of_cell? w _ hx133_3)).trans hx133_3
      replace p133 := eq_true p133
      replace q133 := eq_true q133
      have p139 : 0 ≤ (x12_1 : Int) := of_decide_eq_true (by first | (with_reducible assumption) | assumption)
      have q139 : x12_1 < (l0.length : Int) := of_decide_eq_true (by first | (with_reducible assumption) | assumption)
      obtain ⟨ad139, e139, hx139_0, hx139_1, hx139_2, hx139_3⟩ := at_T40 HR0.out x12_1 p139 q139
      obtain rfl : ad133 = ad139 := (by injection e139)
      replace hx139_0 := (HB.out.cell (World.block_lt_of_cell? w _ hx139_0)).trans hx139_0
      replace hx139_1 := (HB.out.cell (World.block_lt_of_cell? w _ hx139_1)).trans hx139_1
      replace hx139_2 := (HB.out.cell (World.block_lt_of_cell? w _ hx139_2)).trans hx139_2
      replace hx139_3 := (HB.out.cell (World.block_lt_of_cell? w _ hx139_3)).trans hx139_3
      replace p139 := eq_true p139
      replace q139 := eq_true q139
      go_wp2_with (first | ((with_reducible refine gate_builtin (b := .append) (xs := #[.tmp 55, .tmp 60]) rfl ?_); at_builtin; refine Kd.R_append k40 (w0 := w) w.heap.size rfl (.tmp 55) (.tmp 60) 24 40 (.agg #[(.int .i64 0), (.int .i64 0), (.int .i64 0), (.int .i64 0)]) 32 rfl Try.underlying24 info40 rfl (by decide) (by omega) u10 x10_1 (⟨(rd_T40 l0 x12_1).f0, (rd_T40 l0 x12_1).f1, (rd_T40 l0 x12_1).f2, (rd_T40 l0 x12_1).f3⟩ : S40) [.int .i64 ((rd_T40 l0 x12_1).f0), .int .i64 ((rd_T40 l0 x12_1).f1), .int .i64 ((rd_T40 l0 x12_1).f2), .int .i64 ((rd_T40 l0 x12_1).f3)] (fun k_ => k_ ≠ gb114) (fun _ => False) rfl rfl ?aP (fun _ hk => hk.elim) ?aF ?aO ?aB ?aS ?aL ?_; (case aP => exact k40_mkM _ _ _ (⟨(rd_T40 l0 x12_1).f0, (rd_T40 l0 x12_1).f1, (rd_T40 l0 x12_1).f2, (rd_T40 l0 x12_1).f3⟩ : S40)); (case aB => exact (bl HB.out)); (case aF => exact (fun k_ hk => Kd.freshB (g := gb114) (o := .cells #[.int .i64 a1, .int .i64 a2, .int .i64 a3, .int .i64 20] 40 (0, 0)) (bk BK114.out) k_ hk)); (case aO => exact (kr HO_10.out)); (case aS => exact (below_size (bl HB.out))); (case aL => have := LMc39.out; omega); intro v141 w40 ho hb hg hat; rw [← Ny140.out] at ho; have n0_ := aM (blk_grown (g := gb114) (o := .cells #[.int .i64 a1, .int .i64 a2, .int .i64 a3, .int .i64 20] 40 (0, 0)) (bk BK114.out) hg (Kd.R_away HO_10.out (fun _ hk => hk))); have n1_ := aM (hb); have n2_ := aM (ho); clear BK114 HB HO_10; have BK114 := n0_; have HB := n1_; have HO142 := n2_; clear n0_ n1_ n2_; clear ho hb hg hat))
      go_roundg kj9
      case measure => have := HK1.out; have := HJ9.out; omega
      case rel => exact ⟨(y140), (x11_1), (wrap64 (x12_1 + 1)), xE, xE, H', ⟨by have := HK1.out; have := HJ9.out; omega⟩, ⟨kr HO142.out⟩, ⟨by (with_reducible repeat (first | refine blk_drewN ?_ _ | refine blk_drew ?_ | refine blk_alloc ?_ _)); exact BK114.out⟩, ⟨bl HB.out⟩⟩
     rw [if_pos c35] at H
     have c35b0 : (((rd_T40 l0 x12_1).f0) == a1) = true := beq_iff_eq.mpr c35
     have c35b1 : (((rd_T40 l0 x12_1).f0) != a1) = false := bne_eq_false_iff_eq.mpr c35
     clear c35
     by_cases c36 : ((rd_T40 l0 x12_1).f1) = a2
     case pos =>
      rw [if_pos c36] at H
      have c36b0 : (((rd_T40 l0 x12_1).f1) == a2) = true := beq_iff_eq.mpr c36
      have c36b1 : (((rd_T40 l0 x12_1).f1) != a2) = false := bne_eq_false_iff_eq.mpr c36
      clear c36
      have H' := aM H
      clear H
      have p133 : 0 ≤ (x12_1 : Int) := of_decide_eq_true (by first | (with_reducible assumption) | assumption)
      have q133 : x12_1 < (l0.length : Int) := of_decide_eq_true (by first | (with_reducible assumption) | assumption)
      obtain ⟨ad133, e133, hx133_0, hx133_1, hx133_2, hx133_3⟩ := at_T40 HR0.out x12_1 p133 q133
      cases e133
      replace hx133_0 := (HB.out.cell (World.block_lt_of_cell? w _ hx133_0)).trans hx133_0
      replace hx133_1 := (HB.out.cell (World.block_lt_of_cell? w _ hx133_1)).trans hx133_1
      replace hx133_2 := (HB.out.cell (World.block_lt_of_cell? w _ hx133_2)).trans hx133_2
      replace hx133_3 := (HB.out.cell (World.block_lt_of_cell? w _ hx133_3)).trans hx133_3
      replace p133 := eq_true p133
      replace q133 := eq_true q133
      have p134 : 0 ≤ (x12_1 : Int) := of_decide_eq_true (by first | (with_reducible assumption) | assumption)
      have q134 : x12_1 < (l0.length : Int) := of_decide_eq_true (by first | (with_reducible assumption) | assumption)
      obtain ⟨ad134, e134, hx134_0, hx134_1, hx134_2, hx134_3⟩ := at_T40 HR0.out x12_1 p134 q134
      obtain rfl : ad133 = ad134 := (by injection e134)
      replace hx134_0 := (HB.out.cell (World.block_lt_of_cell? w _ hx134_0)).trans hx134_0
      replace hx134_1 := (HB.out.cell (World.block_lt_of_cell? w _ hx134_1)).trans hx134_1
      replace hx134_2 := (HB.out.cell (World.block_lt_of_cell? w _ hx134_2)).trans hx134_2
      replace hx134_3 := (HB.out.cell (World.block_lt_of_cell? w _ hx134_3)).trans hx134_3
      replace p134 := eq_true p134
      replace q134 := eq_true q134
      go_wp2
      go_roundg kj9
      case measure => have := HK1.out; have := HJ9.out; omega
      case rel => exact ⟨(x10_1), (x11_1), (wrap64 (x12_1 + 1)), xE, xE, H', ⟨by have := HK1.out; have := HJ9.out; omega⟩, ⟨kr HO_10.out⟩, ⟨by (with_reducible repeat (first | refine blk_drewN ?_ _ | refine blk_drew ?_ | refine blk_alloc ?_ _)); exact BK114.out⟩, ⟨bl HB.out⟩⟩
     rw [if_neg c36] at H
     have c36b0 : (((rd_T40 l0 x12_1).f1) == a2) = false := beq_eq_false_iff_ne.mpr c36
     have c36b1 : (((rd_T40 l0 x12_1).f1) != a2) = true := bne_iff_ne.mpr c36
     by_cases c37 : x10_1.length < 4398046511104
     case neg =>
      rw [if_neg c37] at H
      exact absurd H (by simp)
     rw [if_pos c37] at H
     have LMc37 := aM c37
     clear c37
     obtain ⟨y136, hy136⟩ : ∃ y_ : List (S40), y_ = (x10_1 ++ [(⟨(rd_T40 l0 x12_1).f0, (rd_T40 l0 x12_1).f1, (rd_T40 l0 x12_1).f2, (rd_T40 l0 x12_1).f3⟩ : S40)]) := ⟨_, rfl⟩
     replace H : (spec_Hear.l0 kj9 l0 a1 a2 y136 x11_1 (wrap64 (x12_1 + 1)) a1 a2 a3 20) = some r := by first | (rw [hy136]; with_reducible exact H) | (have H2_ := (Option.bind_some _ _).symm.trans H; rw [hy136]; with_reducible exact H2_) | (have H2_ := (Option.bind_some _ _).symm.trans H; with_reducible exact H2_) | with_reducible exact H | (rw [hy136]; exact H) | exact H
     have Ny136 := aM hy136
     clear hy136
     have H' := aM H
     clear H
     have p133 : 0 ≤ (x12_1 : Int) := of_decide_eq_true (by first | (with_reducible assumption) | assumption)
     have q133 : x12_1 < (l0.length : Int) := of_decide_eq_true (by first | (with_reducible assumption) | assumption)
     obtain ⟨ad133, e133, hx133_0, hx133_1, hx133_2, hx133_3⟩ := at_T40 HR0.out x12_1 p133 q133
     cases e133
     replace hx133_0 := (HB.out.cell (World.block_lt_of_cell? w _ hx133_0)).trans hx133_0
     replace hx133_1 := (HB.out.cell (World.block_lt_of_cell? w _ hx133_1)).trans hx133_1
     replace hx133_2 := (HB.out.cell (World.block_lt_of_cell? w _ hx133_2)).trans hx133_2
     replace hx133_3 := (HB.out.cell (World.block_lt_of_cell? w _ hx133_3)).trans hx133_3
     replace p133 := eq_true p133
     replace q133 := eq_true q133
     have p134 : 0 ≤ (x12_1 : Int) := of_decide_eq_true (by first | (with_reducible assumption) | assumption)
     have q134 : x12_1 < (l0.length : Int) := of_decide_eq_true (by first | (with_reducible assumption) | assumption)
     obtain ⟨ad134, e134, hx134_0, hx134_1, hx134_2, hx134_3⟩ := at_T40 HR0.out x12_1 p134 q134
     obtain rfl : ad133 = ad134 := (by injection e134)
     replace hx134_0 := (HB.out.cell (World.block_lt_of_cell? w _ hx134_0)).trans hx134_0
     replace hx134_1 := (HB.out.cell (World.block_lt_of_cell? w _ hx134_1)).trans hx134_1
     replace hx134_2 := (HB.out.cell (World.block_lt_of_cell? w _ hx134_2)).trans hx134_2
     replace hx134_3 := (HB.out.cell (World.block_lt_of_cell? w _ hx134_3)).trans hx134_3
     replace p134 := eq_true p134
     replace q134 := eq_true q134
     have p135 : 0 ≤ (x12_1 : Int) := of_decide_eq_true (by first | (with_reducible assumption) | assumption)
     have q135 : x12_1 < (l0.length : Int) := of_decide_eq_true (by first | (with_reducible assumption) | assumption)
     obtain ⟨ad135, e135, hx135_0, hx135_1, hx135_2, hx135_3⟩ := at_T40 HR0.out x12_1 p135 q135
     obtain rfl : ad133 = ad135 := (by injection e135)
     replace hx135_0 := (HB.out.cell (World.block_lt_of_cell? w _ hx135_0)).trans hx135_0
     replace hx135_1 := (HB.out.cell (World.block_lt_of_cell? w _ hx135_1)).trans hx135_1
     replace hx135_2 := (HB.out.cell (World.block_lt_of_cell? w _ hx135_2)).trans hx135_2
     replace hx135_3 := (HB.out.cell (World.block_lt_of_cell? w _ hx135_3)).trans hx135_3
     replace p135 := eq_true p135
     replace q135 := eq_true q135
     go_wp2_with (first | ((with_reducible refine gate_builtin (b := .append) (xs := #[.tmp 55, .tmp 60]) rfl ?_); at_builtin; refine Kd.R_append k40 (w0 := w) w.heap.size rfl (.tmp 55) (.tmp 60) 24 40 (.agg #[(.int .i64 0), (.int .i64 0), (.int .i64 0), (.int .i64 0)]) 32 rfl Try.underlying24 info40 rfl (by decide) (by omega) u10 x10_1 (⟨(rd_T40 l0 x12_1).f0, (rd_T40 l0 x12_1).f1, (rd_T40 l0 x12_1).f2, (rd_T40 l0 x12_1).f3⟩ : S40) [.int .i64 ((rd_T40 l0 x12_1).f0), .int .i64 ((rd_T40 l0 x12_1).f1), .int .i64 ((rd_T40 l0 x12_1).f2), .int .i64 ((rd_T40 l0 x12_1).f3)] (fun k_ => k_ ≠ gb114) (fun _ => False) rfl rfl ?aP (fun _ hk => hk.elim) ?aF ?aO ?aB ?aS ?aL ?_; (case aP => exact k40_mkM _ _ _ (⟨(rd_T40 l0 x12_1).f0, (rd_T40 l0 x12_1).f1, (rd_T40 l0 x12_1).f2, (rd_T40 l0 x12_1).f3⟩ : S40)); (case aB => exact (bl HB.out)); (case aF => exact (fun k_ hk => Kd.freshB (g := gb114) (o := .cells #[.int .i64 a1, .int .i64 a2, .int .i64 a3, .int .i64 20] 40 (0, 0)) (bk BK114.out) k_ hk)); (case aO => exact (kr HO_10.out)); (case aS => exact (below_size (bl HB.out))); (case aL => have := LMc37.out; omega); intro v137 w38 ho hb hg hat; rw [← Ny136.out] at ho; have n0_ := aM (blk_grown (g := gb114) (o := .cells #[.int .i64 a1, .int .i64 a2, .int .i64 a3, .int .i64 20] 40 (0, 0)) (bk BK114.out) hg (Kd.R_away HO_10.out (fun _ hk => hk))); have n1_ := aM (hb); have n2_ := aM (ho); clear BK114 HB HO_10; have BK114 := n0_; have HB := n1_; have HO138 := n2_; clear n0_ n1_ n2_; clear ho hb hg hat))
     go_roundg kj9
     case measure => have := HK1.out; have := HJ9.out; omega
     case rel => exact ⟨(y136), (x11_1), (wrap64 (x12_1 + 1)), xE, xE, H', ⟨by have := HK1.out; have := HJ9.out; omega⟩, ⟨kr HO138.out⟩, ⟨by (with_reducible repeat (first | refine blk_drewN ?_ _ | refine blk_drew ?_ | refine blk_alloc ?_ _)); exact BK114.out⟩, ⟨bl HB.out⟩⟩

def spec_l1Byte.f (s0_0 : List Int) (s0_1 : Int) (s0_2 : Int) : Option (Int × Int × Int) := if s0_1 < (s0_0.length : Int) then (if 0 ≤ s0_1 then (some (Go.bits .and .i64 (wrap64 ((Go.bits .and .i64 (Go.bits .xor .i64 ((wrap64 ((wrap64 (s0_2 * 6364136223846793005)) + 1442695040888963407)) / 8589934592) ((wrap64 ((wrap64 (s0_2 * 6364136223846793005)) + 1442695040888963407)) / 35184372088832)) 255) + (wrap64 (rd s0_0 s0_1)))) 255, wrap64 (s0_1 + 1), wrap64 ((wrap64 (s0_2 * 6364136223846793005)) + 1442695040888963407))) else (none)) else (some (Go.bits .and .i64 (Go.bits .xor .i64 ((wrap64 ((wrap64 (s0_2 * 6364136223846793005)) + 1442695040888963407)) / 8589934592) ((wrap64 ((wrap64 (s0_2 * 6364136223846793005)) + 1442695040888963407)) / 35184372088832)) 255, s0_1, wrap64 ((wrap64 (s0_2 * 6364136223846793005)) + 1442695040888963407)))
set_option maxHeartbeats 60000000 in
set_option maxRecDepth 100000 in
theorem spec_l1Byte.calls (g : Nat) (s0_0 : List Int) (s0_1 : Int) (s0_2 : Int) (r1 : Int) (r2 : Int) (r3 : Int) (w0 w : World) (hI : IsS152 w0 w g s0_0 s0_1 s0_2) (hB : Below w0.heap.size w0 w) (h : spec_l1Byte.f s0_0 s0_1 s0_2 = some (r1, r2, r3)) :
  Calls Try.prog 131 #[.pointer (some ⟨g, 0, none⟩)] w fun e w' => e = .returned (.int .i64 r1) ∧ IsS152 w0 w' g s0_0 r2 r3 ∧ Below w0.heap.size w0 w' ∧ KeepBut w w' g none := by
 have HI0 := aM hI
 have HK := aM (KeepBut.refl w g none)
 have HL := aM hB.size
 clear hI
 have HW0 := aM hB.size
 have HB := aM hB
 clear hB
 have H : (if s0_1 < (s0_0.length : Int) then (if 0 ≤ s0_1 then (some (Go.bits .and .i64 (wrap64 ((Go.bits .and .i64 (Go.bits .xor .i64 ((wrap64 ((wrap64 (s0_2 * 6364136223846793005)) + 1442695040888963407)) / 8589934592) ((wrap64 ((wrap64 (s0_2 * 6364136223846793005)) + 1442695040888963407)) / 35184372088832)) 255) + (wrap64 (rd s0_0 s0_1)))) 255, wrap64 (s0_1 + 1), wrap64 ((wrap64 (s0_2 * 6364136223846793005)) + 1442695040888963407))) else (none)) else (some (Go.bits .and .i64 (Go.bits .xor .i64 ((wrap64 ((wrap64 (s0_2 * 6364136223846793005)) + 1442695040888963407)) / 8589934592) ((wrap64 ((wrap64 (s0_2 * 6364136223846793005)) + 1442695040888963407)) / 35184372088832)) 255, s0_1, wrap64 ((wrap64 (s0_2 * 6364136223846793005)) + 1442695040888963407)))) = some (r1, r2, r3) := h
 clear h
 by_cases c2 : s0_1 < (s0_0.length : Int)
 case neg =>
  rw [if_neg c2] at H
  have c2b0 : decide (s0_1 < (s0_0.length : Int)) = false := decide_eq_false c2
  clear c2
  simp only [Option.some.injEq, Prod.mk.injEq] at H
  obtain ⟨rfl, rfl, rfl⟩ := H
  obtain ⟨ASz5_0, cSz5_0, HGz5, hgz5, HSz5_0⟩ := HI0.out
  have hcz5_0 := cellS152_0 HGz5
  have hcz5_1 := cellS152_1 HGz5
  have hcz5_2 := cellS152_2 HGz5
  have hfz5_1 := bF HGz5 1
  have hfz5_2 := bF HGz5 2
  clear HGz5 hgz5
  go_enter Try.func131, Try.ntmps131
  go_wp2
  repeat (go_quiet (fail); try go_wp2)
  go_ret
  exact ⟨xW, by repeat (first | (with_reducible first | exact HI0.out | apply IsS152.alloc | apply IsS152.drewN | apply IsS152.drew | apply IsS152.set_1 | apply IsS152.set_2) | exact HI0.out), by repeat (first | (with_reducible first | exact HB.out | apply below_alloc | apply pw_below_drewN | apply below_drew1 | refine below_set ?_ (IsS152.ge HI0.out)) | exact HB.out), by repeat (first | (with_reducible first | exact HK.out | apply KeepBut.set_ | apply keep_drewN | apply keep_drew | apply keep_alloc) | exact HK.out)⟩
 rw [if_pos c2] at H
 have c2b0 : decide (s0_1 < (s0_0.length : Int)) = true := decide_eq_true c2
 clear c2
 by_cases c3 : 0 ≤ s0_1
 case neg =>
  rw [if_neg c3] at H
  exact absurd H (by simp)
 rw [if_pos c3] at H
 have c3b0 : decide (0 ≤ s0_1) = true := decide_eq_true c3
 clear c3
 simp only [Option.some.injEq, Prod.mk.injEq] at H
 obtain ⟨rfl, rfl, rfl⟩ := H
 obtain ⟨ASz4_0, cSz4_0, HGz4, hgz4, HSz4_0⟩ := HI0.out
 have hcz4_0 := cellS152_0 HGz4
 have hcz4_1 := cellS152_1 HGz4
 have hcz4_2 := cellS152_2 HGz4
 have hfz4_1 := bF HGz4 1
 have hfz4_2 := bF HGz4 2
 clear HGz4 hgz4
 have p160 : 0 ≤ (s0_1 : Int) := of_decide_eq_true (by first | (with_reducible assumption) | assumption)
 have q160 : s0_1 < (s0_0.length : Int) := of_decide_eq_true (by first | (with_reducible assumption) | assumption)
 obtain ⟨ad160, e160, hx160_0⟩ := Kd.at_int HSz4_0.1 s0_1 p160 q160
 cases e160
 have hn160_0 : ad160.block ≠ g := Nat.ne_of_lt (Nat.lt_of_lt_of_le (by have := World.block_lt_of_cell? _ _ hx160_0; first | rwa [add_block] at this | exact this) (IsS152.ge HI0.out))
 replace hx160_0 := pw_cell_below HB.out hx160_0
 replace hx160_0 := (cell_far (p := ⟨g, 2, none⟩) (by first | (rw [add_block]; exact hn160_0) | (show (Addr.add _ _).block ≠ _; rw [add_block]; exact hn160_0) | exact hn160_0) (.int .i64 (wrap64 ((wrap64 (s0_2 * 6364136223846793005)) + 1442695040888963407)))).trans hx160_0
 (try have hy160_0 := fun (n_ : Nat) => (show (((w.drewN n_).setCell ⟨g, 2, none⟩ (.int .i64 (wrap64 ((wrap64 (s0_2 * 6364136223846793005)) + 1442695040888963407))))).cell? _ = some _ from hx160_0))
 clear hn160_0
 replace p160 := eq_true p160
 replace q160 := eq_true q160
 go_enter Try.func131, Try.ntmps131
 go_wp2
 repeat (go_quiet (fail); try go_wp2)
 go_ret
 exact ⟨xW, by repeat (first | (with_reducible first | exact HI0.out | apply IsS152.alloc | apply IsS152.drewN | apply IsS152.drew | apply IsS152.set_1 | apply IsS152.set_2) | exact HI0.out), by repeat (first | (with_reducible first | exact HB.out | apply below_alloc | apply pw_below_drewN | apply below_drew1 | refine below_set ?_ (IsS152.ge HI0.out)) | exact HB.out), by repeat (first | (with_reducible first | exact HK.out | apply KeepBut.set_ | apply keep_drewN | apply keep_drew | apply keep_alloc) | exact HK.out)⟩

end Go.Proofs.Ytjaldondohddpaa.PFnTables
