/- Of the proof of laws.FnFlushed: a part. No condition beyond what its theorems say. -/
import Derived.Test.YtjaldondohddpaaVFnFlushedPx0
import Derived.Test.YtjaldondohddpaaVFnFlushedPx4
import Derived.Test.YtjaldondohddpaaVFnFlushedPx5
namespace Go.Proofs.Ytjaldondohddpaa.PFnFlushed
open Go.RowKit Go.Proofs.YtjaldondohddpaaW.PrintWords Go.Proofs.YtjaldondohddpaaW.PrintLast Go.Proofs.YtjaldondohddpaaW.PrintMore
attribute [local go_sem] max2_int min2_int max_two min_two max_three min_three max_four min_four   -- for this text's walks alone
set_option linter.unusedVariables false
set_option linter.unusedSimpArgs false

mutual
def spec_Hear.l0 : Nat → List (S40) → Int → Int → List (S40) → Bool → Int → Int → Int → Int → Int → Option ((List (S40)))
 | 0, _, _, _, _, _, _, _, _, _, _ => none
 | k + 1, x0, x1, x2, x10, x11, x12, x168000, x168001, x168002, x168003 => if x12 < (x0.length : Int) then (if x11 = true then (spec_Hear.j1 k x0 x1 x2 x10 x11 x12 false x168000 x168001 x168002 x168003) else (if 0 ≤ x12 then ((spec_l3Before.f ((rd_T40 x0 x12).f0) ((rd_T40 x0 x12).f1) ((rd_T40 x0 x12).f2) ((rd_T40 x0 x12).f3) x168000 x168001 x168002 x168003).bind fun t172 => (spec_Hear.j1 k x0 x1 x2 x10 x11 x12 (!t172) x168000 x168001 x168002 x168003)) else (none))) else (if x11 = true then ((spec_TableOk.f k x10).bind fun t196 => (if t196 = true then (some x10) else ((some (([] : List (S40)) : List (S40))).bind fun y197 => (if y197.length + x0.length < 4398046511104 then (some (y197 ++ x0)) else (none))))) else (if x10.length < 4398046511104 then ((some (x10 ++ [(⟨x168000, x168001, x168002, x168003⟩ : S40)] : List (S40))).bind fun y203 => ((spec_TableOk.f k y203).bind fun t206 => (if t206 = true then (some y203) else ((some (([] : List (S40)) : List (S40))).bind fun y207 => (if y207.length + x0.length < 4398046511104 then (some (y207 ++ x0)) else (none)))))) else (none)))
def spec_Hear.j1 : Nat → List (S40) → Int → Int → List (S40) → Bool → Int → Bool → Int → Int → Int → Int → Option ((List (S40)))
 | 0, _, _, _, _, _, _, _, _, _, _, _ => none
 | k + 1, x0, x1, x2, x10, x11, x12, x34, x168000, x168001, x168002, x168003 => if x34 = true then (if x10.length < 4398046511104 then ((some (x10 ++ [(⟨x168000, x168001, x168002, x168003⟩ : S40)] : List (S40))).bind fun y173 => (if 0 ≤ x12 then (if x12 < (x0.length : Int) then (if ((rd_T40 x0 x12).f0) = x1 then (if ((rd_T40 x0 x12).f1) = x2 then (spec_Hear.l0 k x0 x1 x2 y173 true (wrap64 (x12 + 1)) x168000 x168001 x168002 x168003) else (if y173.length < 4398046511104 then (spec_Hear.l0 k x0 x1 x2 (y173 ++ [(⟨(rd_T40 x0 x12).f0, (rd_T40 x0 x12).f1, (rd_T40 x0 x12).f2, (rd_T40 x0 x12).f3⟩ : S40)]) true (wrap64 (x12 + 1)) x168000 x168001 x168002 x168003) else (none))) else (if y173.length < 4398046511104 then (spec_Hear.l0 k x0 x1 x2 (y173 ++ [(⟨(rd_T40 x0 x12).f0, (rd_T40 x0 x12).f1, (rd_T40 x0 x12).f2, (rd_T40 x0 x12).f3⟩ : S40)]) true (wrap64 (x12 + 1)) x168000 x168001 x168002 x168003) else (none))) else (none)) else (none))) else (none)) else (if 0 ≤ x12 then (if x12 < (x0.length : Int) then (if ((rd_T40 x0 x12).f0) = x1 then (if ((rd_T40 x0 x12).f1) = x2 then (spec_Hear.l0 k x0 x1 x2 x10 x11 (wrap64 (x12 + 1)) x168000 x168001 x168002 x168003) else (if x10.length < 4398046511104 then (spec_Hear.l0 k x0 x1 x2 (x10 ++ [(⟨(rd_T40 x0 x12).f0, (rd_T40 x0 x12).f1, (rd_T40 x0 x12).f2, (rd_T40 x0 x12).f3⟩ : S40)]) x11 (wrap64 (x12 + 1)) x168000 x168001 x168002 x168003) else (none))) else (if x10.length < 4398046511104 then (spec_Hear.l0 k x0 x1 x2 (x10 ++ [(⟨(rd_T40 x0 x12).f0, (rd_T40 x0 x12).f1, (rd_T40 x0 x12).f2, (rd_T40 x0 x12).f3⟩ : S40)]) x11 (wrap64 (x12 + 1)) x168000 x168001 x168002 x168003) else (none))) else (none)) else (none))
end
def spec_Hear.f (k : Nat) (l0 : List (S40)) (a1 : Int) (a2 : Int) (a3 : Int) : Option ((List (S40))) := spec_Hear.l0 k l0 a1 a2 (([] : List (S40))) false 0 a1 a2 a3 20
theorem spec_Hear.mono_l : ∀ k, (∀ y0 y1 y2 y3 y4 y5 y6 y7 y8 y9, LeO (spec_Hear.l0 k y0 y1 y2 y3 y4 y5 y6 y7 y8 y9) (spec_Hear.l0 (k + 1) y0 y1 y2 y3 y4 y5 y6 y7 y8 y9)) ∧ (∀ y0 y1 y2 y3 y4 y5 y6 y7 y8 y9 y10, LeO (spec_Hear.j1 k y0 y1 y2 y3 y4 y5 y6 y7 y8 y9 y10) (spec_Hear.j1 (k + 1) y0 y1 y2 y3 y4 y5 y6 y7 y8 y9 y10))
 | 0 => ⟨fun _ _ _ _ _ _ _ _ _ _ r h => by simp [spec_Hear.l0] at h, fun _ _ _ _ _ _ _ _ _ _ _ r h => by simp [spec_Hear.j1] at h⟩
 | k + 1 => by
  obtain ⟨ih0, ih1⟩ := spec_Hear.mono_l k
  refine ⟨?_, ?_⟩
  ·intro y0 y1 y2 y3 y4 y5 y6 y7 y8 y9
   unfold spec_Hear.l0
   repeat' first
   | (with_reducible exact ih0 _ _ _ _ _ _ _ _ _ _)
   | (with_reducible exact ih1 _ _ _ _ _ _ _ _ _ _ _)
   | (with_reducible exact spec_TableOk.mono _ _)
   | (with_reducible exact LeO.refl _)
   | (with_reducible exact LeO.none _)
   | (with_reducible refine LeO.ite ?_ ?_)
   | (with_reducible refine LeO.bind ?_ (fun _ => ?_))
   | exact ih0 _ _ _ _ _ _ _ _ _ _
   | exact ih1 _ _ _ _ _ _ _ _ _ _ _
   | exact spec_TableOk.mono _ _
   | exact LeO.none _
   | refine LeO.ite ?_ ?_
   | refine LeO.bind ?_ (fun _ => ?_)
  ·intro y0 y1 y2 y3 y4 y5 y6 y7 y8 y9 y10
   unfold spec_Hear.j1
   repeat' first
   | (with_reducible exact ih0 _ _ _ _ _ _ _ _ _ _)
   | (with_reducible exact ih1 _ _ _ _ _ _ _ _ _ _ _)
   | (with_reducible exact spec_TableOk.mono _ _)
   | (with_reducible exact LeO.refl _)
   | (with_reducible exact LeO.none _)
   | (with_reducible refine LeO.ite ?_ ?_)
   | (with_reducible refine LeO.bind ?_ (fun _ => ?_))
   | exact ih0 _ _ _ _ _ _ _ _ _ _
   | exact ih1 _ _ _ _ _ _ _ _ _ _ _
   | exact spec_TableOk.mono _ _
   | exact LeO.none _
   | refine LeO.ite ?_ ?_
   | refine LeO.bind ?_ (fun _ => ?_)
theorem spec_Hear.mono : ∀ a0 a1 a2 a3 k, LeO (spec_Hear.f k a0 a1 a2 a3) (spec_Hear.f (k + 1) a0 a1 a2 a3) := by
 intro a0 a1 a2 a3 k
 obtain ⟨ih0, ih1⟩ := spec_Hear.mono_l k
 unfold spec_Hear.f
 repeat' first
   | (with_reducible exact ih0 _ _ _ _ _ _ _ _ _ _)
   | (with_reducible exact ih1 _ _ _ _ _ _ _ _ _ _ _)
   | (with_reducible exact spec_TableOk.mono _ _)
   | (with_reducible exact LeO.refl _)
   | (with_reducible exact LeO.none _)
   | (with_reducible refine LeO.ite ?_ ?_)
   | (with_reducible refine LeO.bind ?_ (fun _ => ?_))
   | exact ih0 _ _ _ _ _ _ _ _ _ _
   | exact ih1 _ _ _ _ _ _ _ _ _ _ _
   | exact spec_TableOk.mono _ _
   | exact LeO.none _
   | refine LeO.ite ?_ ?_
   | refine LeO.bind ?_ (fun _ => ?_)
def spec_Hear.T7 : Bool × List (List Nat × List Nat) := (true, [([], []), ([0], [0]), ([1], [1]), ([2], [2]), ([2], [2]), ([3, 4, 2], [2, 3, 4]), ([5, 2], [2, 5]), ([2], [2]), ([6, 7, 2, 2], [2, 6, 7]), ([8, 2], [2, 8]), ([2, 9], [2, 9])])
def spec_Hear.B7 : List Nat := [0, 1, 3, 7, 7, 31, 63, 7, 255, 511, 1023]
theorem spec_Hear.tab7 : rtab .any (opsOf Try.f23 7) = spec_Hear.T7 := by kernel_rfl
theorem spec_Hear.bits7 : waitsOk spec_Hear.T7.2 spec_Hear.B7 = true := by kernel_rfl
set_option maxHeartbeats 60000000 in
set_option maxRecDepth 100000 in
theorem spec_Hear.calls (k : Nat) (A0 : Option Addr) (c0 : Nat) (l0 : List (S40)) (a1 : Int) (a2 : Int) (a3 : Int) (r : List (S40)) (w : World) (hr0 : Kd.C k40 w A0 l0.length l0) (hc0 : l0.length ≤ c0) (h : spec_Hear.f k l0 a1 a2 a3 = some r) :
  Calls Try.prog 23 #[.slice A0 l0.length c0, .int .i64 a1, .int .i64 a2, .int .i64 a3] w fun e w' => ∃ v0_ : Value, e = .returned (v0_) ∧ Kd.R k40 40 w' w.heap.size (fun _ => True) v0_ r ∧ Below w.heap.size w w' := by
 have hu40 := Try.underlying40
 have HR0 := aM hr0
 have HC0 := aM hc0
 clear hr0 hc0
 have HB := aM (Below.refl w.heap.size w)
 have H : (spec_Hear.l0 k l0 a1 a2 (([] : List (S40))) false 0 a1 a2 a3 20) = some r := h
 clear h
 obtain ⟨y168, hy168⟩ : ∃ y_ : List (S40), y_ = (([] : List (S40))) := ⟨_, rfl⟩
 replace H : (spec_Hear.l0 k l0 a1 a2 y168 false 0 a1 a2 a3 20) = some r := by first | (rw [hy168]; with_reducible exact H) | (have H2_ := (Option.bind_some _ _).symm.trans H; rw [hy168]; with_reducible exact H2_) | (have H2_ := (Option.bind_some _ _).symm.trans H; with_reducible exact H2_) | with_reducible exact H | (rw [hy168]; exact H) | exact H
 have Ny168 := aM hy168
 clear hy168
 have H' := aM H
 clear H
 go_enter Try.func23, Try.ntmps23
 go_wp2_with (first | ((with_reducible refine gate_dst (N := 9) rfl ?_); refine box_event ?hg (N := 9) ?hd (cs := #[.int .i64 0, .int .i64 0, .int .i64 0, .int .i64 0]) (t := 40) ?hr ?_; (case hd => rfl); (case hg => rfl); (case hr => first | (go_simp; done) | (go_simp; rfl)); intro gb167 hg w5 hbox hb; have n0_ := aM (bS (bl HB.out) hb); have n1_ := aM (hbox); have n2_ := aM ((by rw [hg]; exact (below_size (bl HB.out)) : w.heap.size ≤ gb167)); have n3_ := aM ((by rw [hg]; exact (below_size (bl HB.out)) : w.heap.size ≤ gb167)); clear HB; have HB := n0_; have BK167 := n1_; have GW167 := n2_; have GE167 := n3_; clear n0_ n1_ n2_ n3_; clear hb hbox hg; have hcz6_0 := cI BK167.out 0; have hcz6_1 := cI BK167.out 1; have hcz6_2 := cI BK167.out 2; have hcz6_3 := cI BK167.out 3; have hfz6_0 := bF BK167.out 0; have hfz6_1 := bF BK167.out 1; have hfz6_2 := bF BK167.out 2; have hfz6_3 := bF BK167.out 3) | ((with_reducible refine gate_dst (N := 17) rfl ?_); refine Kd.R_lit k40 _ 40 ?hg (N := 17) ?hd (xs := ([] : List (S40))) (inner := []) (ok := fun _ => True) (okp := fun _ => True) ?hr ?hp (fun _ hk => hk) trivial (Below.refl _ _) (Nat.le_refl _) (by simp) ?_; (case hd => rfl); (case hg => rfl); (case hr => first | (go_simp; done) | (go_simp; rfl)); (case hp => exact (Reps.none _ _)); intro v169 w7 ho8 hb hg_ hnew_; clear hg_ hnew_; (first | rw [← Ny168.out] at ho8 | (simp only [Int.reduceToNat] at ho8; rw [← Ny168.out] at ho8)); have n0_ := aM (Kd.R_lower (Kd.R_newB ho8 (g := gb167) (o := .cells #[.int .i64 a1, .int .i64 a2, .int .i64 a3, .int .i64 20] 40 (0, 0)) (by (with_reducible repeat (first | refine blk_drewN ?_ _ | refine blk_drew ?_ | refine blk_alloc ?_ _)); refine blk_put (cs := #[.int .i64 a1, .int .i64 a2, .int .i64 a3, .int .i64 0]) ?_ 3 _ rfl; (with_reducible repeat (first | refine blk_drewN ?_ _ | refine blk_drew ?_ | refine blk_alloc ?_ _)); refine blk_put (cs := #[.int .i64 a1, .int .i64 a2, .int .i64 0, .int .i64 0]) ?_ 2 _ rfl; (with_reducible repeat (first | refine blk_drewN ?_ _ | refine blk_drew ?_ | refine blk_alloc ?_ _)); refine blk_put (cs := #[.int .i64 a1, .int .i64 0, .int .i64 0, .int .i64 0]) ?_ 1 _ rfl; (with_reducible repeat (first | refine blk_drewN ?_ _ | refine blk_drew ?_ | refine blk_alloc ?_ _)); refine blk_put (cs := #[.int .i64 0, .int .i64 0, .int .i64 0, .int .i64 0]) ?_ 0 _ rfl; (with_reducible repeat (first | refine blk_drewN ?_ _ | refine blk_drew ?_ | refine blk_alloc ?_ _)); exact BK167.out)) (below_size (bl HB.out))); have n1_ := aM (bB (g := gb167) (o := .cells #[.int .i64 a1, .int .i64 a2, .int .i64 a3, .int .i64 20] 40 (0, 0)) (by (with_reducible repeat (first | refine blk_drewN ?_ _ | refine blk_drew ?_ | refine blk_alloc ?_ _)); refine blk_put (cs := #[.int .i64 a1, .int .i64 a2, .int .i64 a3, .int .i64 0]) ?_ 3 _ rfl; (with_reducible repeat (first | refine blk_drewN ?_ _ | refine blk_drew ?_ | refine blk_alloc ?_ _)); refine blk_put (cs := #[.int .i64 a1, .int .i64 a2, .int .i64 0, .int .i64 0]) ?_ 2 _ rfl; (with_reducible repeat (first | refine blk_drewN ?_ _ | refine blk_drew ?_ | refine blk_alloc ?_ _)); refine blk_put (cs := #[.int .i64 a1, .int .i64 0, .int .i64 0, .int .i64 0]) ?_ 1 _ rfl; (with_reducible repeat (first | refine blk_drewN ?_ _ | refine blk_drew ?_ | refine blk_alloc ?_ _)); refine blk_put (cs := #[.int .i64 0, .int .i64 0, .int .i64 0, .int .i64 0]) ?_ 0 _ rfl; (with_reducible repeat (first | refine blk_drewN ?_ _ | refine blk_drew ?_ | refine blk_alloc ?_ _)); exact BK167.out) hb); have n2_ := aM (bS (bl HB.out) hb); clear BK167 HB; have HO170 := n0_; have BK167 := n1_; have HB := n2_; clear n0_ n1_ n2_; clear hb ho8))
 go_loopg [10, 11, 12] k (fun kq v10 v11 v12 w' => ∃ (x10_1 : List (S40)) (x11_1 : Bool) (x12_1 : Int), v11 = .bool x11_1 ∧ v12 = .int .i64 x12_1 ∧ Aside0 (spec_Hear.l0 kq l0 a1 a2 x10_1 x11_1 x12_1 a1 a2 a3 20 = some r) ∧ Aside0 (kq ≤ k) ∧ Aside0 (Kd.R k40 40 w' w.heap.size (fun k_ => k_ ≠ gb167) v10 x10_1) ∧ Aside0 (w'.heap[gb167]? = some (.cells #[.int .i64 a1, .int .i64 a2, .int .i64 a3, .int .i64 20] 40 (0, 0))) ∧ Aside0 (Below w.heap.size w w'))
 case atStart => exact ⟨(y168), (false), (0), xE, xE, H', ⟨Nat.le_refl _⟩, ⟨kr (Kd.R_mono HO170.out (fun _ hk => hk.2))⟩, ⟨by (with_reducible repeat (first | refine blk_drewN ?_ _ | refine blk_drew ?_ | refine blk_alloc ?_ _)); exact BK167.out⟩, ⟨bl HB.out⟩⟩
 case round =>
  clear H'
  try clear c2
  try clear p2
  try clear hcz6_0
  try clear hcz6_1
  try clear hcz6_2
  try clear hcz6_3
  try clear hfz6_0
  try clear hfz6_1
  try clear hfz6_2
  try clear hfz6_3
  obtain ⟨x10_1, x11_1, x12_1, rfl, rfl, HA, HK1, HO_10, BK167, HB⟩ := hrel
  cases gk with
  | zero => exact absurd HA.out (by simp [spec_Hear.l0])
  | succ k1 =>
   have H := HA.out
   clear HA
   simp only [spec_Hear.l0] at H
   by_cases c9 : x12_1 < (l0.length : Int)
   case neg =>
    rw [if_neg c9] at H
    have c9b0 : decide (x12_1 < (l0.length : Int)) = false := decide_eq_false c9
    clear c9
    by_cases c41 : x11_1 = true
    case pos =>
     subst c41
     have H1 : ((spec_TableOk.f k1 x10_1).bind fun t196 => (if t196 = true then (some x10_1) else ((some (([] : List (S40)) : List (S40))).bind fun y197 => (if y197.length + l0.length < 4398046511104 then (some (y197 ++ l0)) else (none))))) = some r := by rw [if_pos rfl] at H; exact H
     clear H
     have H := H1
     clear H1
     replace H := Option.bind_eq_some_iff.mp H
     obtain ⟨t196, A420, H⟩ := H
     replace H : (if t196 = true then (some x10_1) else ((some (([] : List (S40)) : List (S40))).bind fun y197 => (if y197.length + l0.length < 4398046511104 then (some (y197 ++ l0)) else (none)))) = some r := H
     have A42 := aM A420
     clear A420
     by_cases c43 : t196 = true
     case pos =>
      subst c43
      have H1 : (some x10_1) = some r := by rw [if_pos rfl] at H; exact H
      clear H
      have H := H1
      clear H1
      obtain rfl := Option.some.inj H
      obtain ⟨Ao44, co44, eo44⟩ := Kd.R_slice HO_10.out
      subst eo44
      go_wp2_with (first | ((with_reducible refine gate_callee (f := 27) rfl ?_); refine goesL_ (some 69) rfl rfl Try.func27 (by kernel_rfl) rfl #[.slice Ao44 x10_1.length co44] rfl xR ?_; (with_reducible refine (spec_TableOk.calls k1 _ _ x10_1 true _ ?side1 ?side2 A42.out).mono ?_); (case side1 => repeat (first | exact (Kd.R_reads' HO_10.out).2.2 | (with_reducible refine Kd.C_alloc ?_ _) | (with_reducible refine Kd.C_drewN ?_ _) | (with_reducible refine Kd.C_drew ?_))); (case side2 => exact (Kd.R_reads' HO_10.out).2.1); rintro e w45 ⟨rfl, hb⟩; refine ⟨_, rfl, ?_⟩; have n0_ := aM (kB (kr HO_10.out) hb); have n1_ := aM (bB (g := gb167) (o := .cells #[.int .i64 a1, .int .i64 a2, .int .i64 a3, .int .i64 20] 40 (0, 0)) (bk BK167.out) hb); have n2_ := aM (bS (bl HB.out) hb); clear HO_10 BK167 HB; have HO_10 := n0_; have BK167 := n1_; have HB := n2_; clear n0_ n1_ n2_; (try clear hb)))
      go_ret
      exact ⟨_, xW, by (with_reducible repeat (first | apply Kd.R_alloc | apply Kd.R_drewN | apply Kd.R_drew)); exact Kd.R_mono HO_10.out (fun _ hk => trivial), bl HB.out⟩
     replace c43 := Bool.eq_false_iff.mpr c43
     subst c43
     have H1 : ((some (([] : List (S40)) : List (S40))).bind fun y197 => (if y197.length + l0.length < 4398046511104 then (some (y197 ++ l0)) else (none))) = some r := by rw [if_neg (show ¬ (false = true) by decide)] at H; exact H
     clear H
     have H := H1
     clear H1
     obtain ⟨y197, hy197⟩ : ∃ y_ : List (S40), y_ = (([] : List (S40))) := ⟨_, rfl⟩
     replace H : (if y197.length + l0.length < 4398046511104 then (some (y197 ++ l0)) else (none)) = some r := by first | (rw [hy197]; with_reducible exact H) | (have H2_ := (Option.bind_some _ _).symm.trans H; rw [hy197]; with_reducible exact H2_) | (have H2_ := (Option.bind_some _ _).symm.trans H; with_reducible exact H2_) | with_reducible exact H | (rw [hy197]; exact H) | exact H
     have Ny197 := aM hy197
     clear hy197
     by_cases c46 : y197.length + l0.length < 4398046511104
     case neg =>
      rw [if_neg c46] at H
      exact absurd H (by simp)
     rw [if_pos c46] at H
     have LMc46 := aM c46
     clear c46
     obtain ⟨y200, hy200⟩ : ∃ y_ : List (S40), y_ = (y197 ++ l0) := ⟨_, rfl⟩
     replace H : (some y200) = some r := by first | (rw [hy200]; with_reducible exact H) | (have H2_ := (Option.bind_some _ _).symm.trans H; rw [hy200]; with_reducible exact H2_) | (have H2_ := (Option.bind_some _ _).symm.trans H; with_reducible exact H2_) | with_reducible exact H | (rw [hy200]; exact H) | exact H
     have Ny200 := aM hy200
     clear hy200
     obtain rfl := Option.some.inj H
     obtain ⟨Ao47, co47, eo47⟩ := Kd.R_slice HO_10.out
     subst eo47
     go_wp2_with (first | ((with_reducible refine gate_callee (f := 27) rfl ?_); refine goesL_ (some 69) rfl rfl Try.func27 (by kernel_rfl) rfl #[.slice Ao47 x10_1.length co47] rfl xR ?_; (with_reducible refine (spec_TableOk.calls k1 _ _ x10_1 false _ ?side1 ?side2 A42.out).mono ?_); (case side1 => repeat (first | exact (Kd.R_reads' HO_10.out).2.2 | (with_reducible refine Kd.C_alloc ?_ _) | (with_reducible refine Kd.C_drewN ?_ _) | (with_reducible refine Kd.C_drew ?_))); (case side2 => exact (Kd.R_reads' HO_10.out).2.1); rintro e w48 ⟨rfl, hb⟩; refine ⟨_, rfl, ?_⟩; have n0_ := aM (kB (kr HO_10.out) hb); have n1_ := aM (bB (g := gb167) (o := .cells #[.int .i64 a1, .int .i64 a2, .int .i64 a3, .int .i64 20] 40 (0, 0)) (bk BK167.out) hb); have n2_ := aM (bS (bl HB.out) hb); clear HO_10 BK167 HB; have HO_10 := n0_; have BK167 := n1_; have HB := n2_; clear n0_ n1_ n2_; (try clear hb)) | ((with_reducible refine gate_dst (N := 71) rfl ?_); refine Kd.R_lit k40 _ 40 ?hg (N := 71) ?hd (xs := ([] : List (S40))) (inner := []) (ok := fun _ => True) (okp := fun _ => True) ?hr ?hp (fun _ hk => hk) trivial (Below.refl _ _) (Nat.le_refl _) (by simp) ?_; (case hd => rfl); (case hg => rfl); (case hr => first | (go_simp; done) | (go_simp; rfl) | (obtain ⟨A_, c_, e_⟩ := Kd.R_slice HO_10.out; subst e_; (first | (go_simp; done) | (go_simp; rfl))) | (obtain ⟨A_, c_, e_⟩ := Kd.S_slice HO_10.out; subst e_; (first | (go_simp; done) | (go_simp; rfl))) | (obtain ⟨A_, c_, e_⟩ := Kd.R_slice HO199.out; subst e_; (first | (go_simp; done) | (go_simp; rfl))) | (obtain ⟨A_, c_, e_⟩ := Kd.S_slice HO199.out; subst e_; (first | (go_simp; done) | (go_simp; rfl)))); (case hp => exact (Reps.none _ _)); intro v198 w49 ho50 hb hg_ hnew_; clear hg_ hnew_; (first | rw [← Ny197.out] at ho50 | (simp only [Int.reduceToNat] at ho50; rw [← Ny197.out] at ho50)); have n0_ := aM (Kd.R_elder' (kr HO_10.out) (Kd.R_base ho50) hb); have n1_ := aM (Kd.R_lower (Kd.R_newB (Kd.R_new' ho50 (Kd.R_lt (kr HO_10.out))) (g := gb167) (o := .cells #[.int .i64 a1, .int .i64 a2, .int .i64 a3, .int .i64 20] 40 (0, 0)) (bk BK167.out)) (below_size (bl HB.out))); have n2_ := aM (bB (g := gb167) (o := .cells #[.int .i64 a1, .int .i64 a2, .int .i64 a3, .int .i64 20] 40 (0, 0)) (bk BK167.out) hb); have n3_ := aM (bS (bl HB.out) hb); clear HO_10 BK167 HB; have HO_10 := n0_; have HO199 := n1_; have BK167 := n2_; have HB := n3_; clear n0_ n1_ n2_ n3_; clear hb ho50) | ((with_reducible refine gate_builtin (b := .append) (xs := #[.tmp 71, .tmp 72]) rfl ?_); at_builtin; refine Kd.R_append_rows k40 (w0 := w) w.heap.size rfl (.tmp 71) (.tmp 72) 24 40 (.agg #[(.int .i64 0), (.int .i64 0), (.int .i64 0), (.int .i64 0)]) 32 rfl Try.underlying24 info40 rfl (by decide) (by omega) v198 y197 l0 _ _ _ (fun k_ => some k_ ≠ (.slice Ao47 x10_1.length co47 : Value).ownBlock ∧ k_ ≠ gb167) (fun _ => False) rfl rfl ?aO ?aR (fun _ _ h => h) (fun _ h => h.elim) ?aF ?aB ?aS ?aL ?_; (case aR => repeat (first | exact (cB HR0.out HB.out) | (with_reducible refine Kd.C_alloc ?_ _) | (with_reducible refine Kd.C_drewN ?_ _) | (with_reducible refine Kd.C_drew ?_))); (case aB => exact (bl HB.out)); (case aF => exact (fun k_ hk => ⟨Kd.fresh' (Kd.R_lt (kr HO_10.out)) k_ hk, Kd.freshB (g := gb167) (o := .cells #[.int .i64 a1, .int .i64 a2, .int .i64 a3, .int .i64 20] 40 (0, 0)) (bk BK167.out) k_ hk⟩)); (case aO => exact (kr (Kd.R_mono HO199.out (fun _ hk => ⟨hk.1.2, hk.2⟩)))); (case aS => exact (below_size (bl HB.out))); (case aL => have := LMc46.out; omega); intro v201 w51 ho hb hg hat; rw [← Ny200.out] at ho; have n0_ := aM (Kd.R_after (ok := (fun k_ => k_ ≠ gb167)) (kr HO_10.out) hg hat); have n1_ := aM (blk_grown (g := gb167) (o := .cells #[.int .i64 a1, .int .i64 a2, .int .i64 a3, .int .i64 20] 40 (0, 0)) (bk BK167.out) hg (Kd.R_away HO199.out (fun _ hk => hk.2))); have n2_ := aM (hb); have n3_ := aM (ho); clear HO_10 BK167; clear HB HO199; have HO_10 := n0_; have BK167 := n1_; have HB := n2_; have HO202 := n3_; clear n0_ n1_ n2_ n3_; clear ho hb hg hat))
     go_ret
     exact ⟨_, xW, by (with_reducible repeat (first | apply Kd.R_alloc | apply Kd.R_drewN | apply Kd.R_drew)); exact Kd.R_mono HO202.out (fun _ hk => trivial), bl HB.out⟩
    replace c41 := Bool.eq_false_iff.mpr c41
    subst c41
    have H1 : (if x10_1.length < 4398046511104 then ((some (x10_1 ++ [(⟨a1, a2, a3, 20⟩ : S40)] : List (S40))).bind fun y203 => ((spec_TableOk.f k1 y203).bind fun t206 => (if t206 = true then (some y203) else ((some (([] : List (S40)) : List (S40))).bind fun y207 => (if y207.length + l0.length < 4398046511104 then (some (y207 ++ l0)) else (none)))))) else (none)) = some r := by rw [if_neg (show ¬ (false = true) by decide)] at H; exact H
    clear H
    have H := H1
    clear H1
    by_cases c52 : x10_1.length < 4398046511104
    case neg =>
     rw [if_neg c52] at H
     exact absurd H (by simp)
    rw [if_pos c52] at H
    have LMc52 := aM c52
    clear c52
    obtain ⟨y203, hy203⟩ : ∃ y_ : List (S40), y_ = (x10_1 ++ [(⟨a1, a2, a3, 20⟩ : S40)]) := ⟨_, rfl⟩
    replace H : ((spec_TableOk.f k1 y203).bind fun t206 => (if t206 = true then (some y203) else ((some (([] : List (S40)) : List (S40))).bind fun y207 => (if y207.length + l0.length < 4398046511104 then (some (y207 ++ l0)) else (none))))) = some r := by first | (rw [hy203]; with_reducible exact H) | (have H2_ := (Option.bind_some _ _).symm.trans H; rw [hy203]; with_reducible exact H2_) | (have H2_ := (Option.bind_some _ _).symm.trans H; with_reducible exact H2_) | with_reducible exact H | (rw [hy203]; exact H) | exact H
    have Ny203 := aM hy203
    clear hy203
    replace H := Option.bind_eq_some_iff.mp H
    obtain ⟨t206, A530, H⟩ := H
    replace H : (if t206 = true then (some y203) else ((some (([] : List (S40)) : List (S40))).bind fun y207 => (if y207.length + l0.length < 4398046511104 then (some (y207 ++ l0)) else (none)))) = some r := H
    have A53 := aM A530
    clear A530
    by_cases c54 : t206 = true
    case pos =>
     subst c54
     have H1 : (some y203) = some r := by rw [if_pos rfl] at H; exact H
     clear H
     have H := H1
     clear H1
     obtain rfl := Option.some.inj H
     have hcz55_0 := cI BK167.out 0
     have hcz55_1 := cI BK167.out 1
     have hcz55_2 := cI BK167.out 2
     have hcz55_3 := cI BK167.out 3
     have hfz55_0 := bF BK167.out 0
     have hfz55_1 := bF BK167.out 1
     have hfz55_2 := bF BK167.out 2
     have hfz55_3 := bF BK167.out 3
     go_wp2_with (first | ((with_reducible refine gate_builtin (b := .append) (xs := #[.tmp 64, .tmp 66]) rfl ?_); at_builtin; refine Kd.R_append k40 (w0 := w) w.heap.size rfl (.tmp 64) (.tmp 66) 24 40 (.agg #[(.int .i64 0), (.int .i64 0), (.int .i64 0), (.int .i64 0)]) 32 rfl Try.underlying24 info40 rfl (by decide) (by omega) u10 x10_1 (⟨a1, a2, a3, 20⟩ : S40) [.int .i64 a1, .int .i64 a2, .int .i64 a3, .int .i64 20] (fun k_ => k_ ≠ gb167) (fun _ => False) rfl rfl ?aP (fun _ hk => hk.elim) ?aF ?aO ?aB ?aS ?aL ?_; (case aP => exact k40_mkM _ _ _ (⟨a1, a2, a3, 20⟩ : S40)); (case aB => exact (bl HB.out)); (case aF => exact (fun k_ hk => Kd.freshB (g := gb167) (o := .cells #[.int .i64 a1, .int .i64 a2, .int .i64 a3, .int .i64 20] 40 (0, 0)) (bk BK167.out) k_ hk)); (case aO => exact (kr HO_10.out)); (case aS => exact (below_size (bl HB.out))); (case aL => have := LMc52.out; omega); intro v204 w56 ho hb hg hat; rw [← Ny203.out] at ho; have n0_ := aM (blk_grown (g := gb167) (o := .cells #[.int .i64 a1, .int .i64 a2, .int .i64 a3, .int .i64 20] 40 (0, 0)) (bk BK167.out) hg (Kd.R_away HO_10.out (fun _ hk => hk))); have n1_ := aM (hb); have n2_ := aM (ho); clear BK167 HB HO_10; have BK167 := n0_; have HB := n1_; have HO205 := n2_; clear n0_ n1_ n2_; clear ho hb hg hat; obtain ⟨Ao57, co57, eo57⟩ := Kd.R_slice HO205.out; subst eo57) | ((with_reducible refine gate_callee (f := 27) rfl ?_); refine goesL_ (some 69) rfl rfl Try.func27 (by kernel_rfl) rfl #[.slice Ao57 y203.length co57] rfl xR ?_; (with_reducible refine (spec_TableOk.calls k1 _ _ y203 true _ ?side1 ?side2 A53.out).mono ?_); (case side1 => repeat (first | exact (Kd.R_reads' HO205.out).2.2 | (with_reducible refine Kd.C_alloc ?_ _) | (with_reducible refine Kd.C_drewN ?_ _) | (with_reducible refine Kd.C_drew ?_))); (case side2 => exact (Kd.R_reads' HO205.out).2.1); rintro e w58 ⟨rfl, hb⟩; refine ⟨_, rfl, ?_⟩; have n0_ := aM (kB (kr HO205.out) hb); have n1_ := aM (bB (g := gb167) (o := .cells #[.int .i64 a1, .int .i64 a2, .int .i64 a3, .int .i64 20] 40 (0, 0)) (bk BK167.out) hb); have n2_ := aM (bS (bl HB.out) hb); clear HO205 BK167 HB; have HO205 := n0_; have BK167 := n1_; have HB := n2_; clear n0_ n1_ n2_; (try clear hb)))
     go_ret
     exact ⟨_, xW, by (with_reducible repeat (first | apply Kd.R_alloc | apply Kd.R_drewN | apply Kd.R_drew)); exact Kd.R_mono HO205.out (fun _ hk => trivial), bl HB.out⟩
    replace c54 := Bool.eq_false_iff.mpr c54
    subst c54
    have H1 : ((some (([] : List (S40)) : List (S40))).bind fun y207 => (if y207.length + l0.length < 4398046511104 then (some (y207 ++ l0)) else (none))) = some r := by rw [if_neg (show ¬ (false = true) by decide)] at H; exact H
    clear H
    have H := H1
    clear H1
    obtain ⟨y207, hy207⟩ : ∃ y_ : List (S40), y_ = (([] : List (S40))) := ⟨_, rfl⟩
    replace H : (if y207.length + l0.length < 4398046511104 then (some (y207 ++ l0)) else (none)) = some r := by first | (rw [hy207]; with_reducible exact H) | (have H2_ := (Option.bind_some _ _).symm.trans H; rw [hy207]; with_reducible exact H2_) | (have H2_ := (Option.bind_some _ _).symm.trans H; with_reducible exact H2_) | with_reducible exact H | (rw [hy207]; exact H) | exact H
    have Ny207 := aM hy207
    clear hy207
    by_cases c59 : y207.length + l0.length < 4398046511104
    case neg =>
     rw [if_neg c59] at H
     exact absurd H (by simp)
    rw [if_pos c59] at H
    have LMc59 := aM c59
    clear c59
    obtain ⟨y210, hy210⟩ : ∃ y_ : List (S40), y_ = (y207 ++ l0) := ⟨_, rfl⟩
    replace H : (some y210) = some r := by first | (rw [hy210]; with_reducible exact H) | (have H2_ := (Option.bind_some _ _).symm.trans H; rw [hy210]; with_reducible exact H2_) | (have H2_ := (Option.bind_some _ _).symm.trans H; with_reducible exact H2_) | with_reducible exact H | (rw [hy210]; exact H) | exact H
    have Ny210 := aM hy210
    clear hy210
    obtain rfl := Option.some.inj H
    have hcz60_0 := cI BK167.out 0
    have hcz60_1 := cI BK167.out 1
    have hcz60_2 := cI BK167.out 2
    have hcz60_3 := cI BK167.out 3
    have hfz60_0 := bF BK167.out 0
    have hfz60_1 := bF BK167.out 1
    have hfz60_2 := bF BK167.out 2
    have hfz60_3 := bF BK167.out 3
    go_wp2_with (first | ((with_reducible refine gate_builtin (b := .append) (xs := #[.tmp 64, .tmp 66]) rfl ?_); at_builtin; refine Kd.R_append k40 (w0 := w) w.heap.size rfl (.tmp 64) (.tmp 66) 24 40 (.agg #[(.int .i64 0), (.int .i64 0), (.int .i64 0), (.int .i64 0)]) 32 rfl Try.underlying24 info40 rfl (by decide) (by omega) u10 x10_1 (⟨a1, a2, a3, 20⟩ : S40) [.int .i64 a1, .int .i64 a2, .int .i64 a3, .int .i64 20] (fun k_ => k_ ≠ gb167) (fun _ => False) rfl rfl ?aP (fun _ hk => hk.elim) ?aF ?aO ?aB ?aS ?aL ?_; (case aP => exact k40_mkM _ _ _ (⟨a1, a2, a3, 20⟩ : S40)); (case aB => exact (bl HB.out)); (case aF => exact (fun k_ hk => Kd.freshB (g := gb167) (o := .cells #[.int .i64 a1, .int .i64 a2, .int .i64 a3, .int .i64 20] 40 (0, 0)) (bk BK167.out) k_ hk)); (case aO => exact (kr HO_10.out)); (case aS => exact (below_size (bl HB.out))); (case aL => have := LMc52.out; omega); intro v204 w61 ho hb hg hat; rw [← Ny203.out] at ho; have n0_ := aM (blk_grown (g := gb167) (o := .cells #[.int .i64 a1, .int .i64 a2, .int .i64 a3, .int .i64 20] 40 (0, 0)) (bk BK167.out) hg (Kd.R_away HO_10.out (fun _ hk => hk))); have n1_ := aM (hb); have n2_ := aM (ho); clear BK167 HB HO_10; have BK167 := n0_; have HB := n1_; have HO205 := n2_; clear n0_ n1_ n2_; clear ho hb hg hat; obtain ⟨Ao62, co62, eo62⟩ := Kd.R_slice HO205.out; subst eo62) | ((with_reducible refine gate_callee (f := 27) rfl ?_); refine goesL_ (some 69) rfl rfl Try.func27 (by kernel_rfl) rfl #[.slice Ao62 y203.length co62] rfl xR ?_; (with_reducible refine (spec_TableOk.calls k1 _ _ y203 false _ ?side1 ?side2 A53.out).mono ?_); (case side1 => repeat (first | exact (Kd.R_reads' HO205.out).2.2 | (with_reducible refine Kd.C_alloc ?_ _) | (with_reducible refine Kd.C_drewN ?_ _) | (with_reducible refine Kd.C_drew ?_))); (case side2 => exact (Kd.R_reads' HO205.out).2.1); rintro e w63 ⟨rfl, hb⟩; refine ⟨_, rfl, ?_⟩; have n0_ := aM (kB (kr HO205.out) hb); have n1_ := aM (bB (g := gb167) (o := .cells #[.int .i64 a1, .int .i64 a2, .int .i64 a3, .int .i64 20] 40 (0, 0)) (bk BK167.out) hb); have n2_ := aM (bS (bl HB.out) hb); clear HO205 BK167 HB; have HO205 := n0_; have BK167 := n1_; have HB := n2_; clear n0_ n1_ n2_; (try clear hb)) | ((with_reducible refine gate_dst (N := 71) rfl ?_); refine Kd.R_lit k40 _ 40 ?hg (N := 71) ?hd (xs := ([] : List (S40))) (inner := []) (ok := fun _ => True) (okp := fun _ => True) ?hr ?hp (fun _ hk => hk) trivial (Below.refl _ _) (Nat.le_refl _) (by simp) ?_; (case hd => rfl); (case hg => rfl); (case hr => first | (go_simp; done) | (go_simp; rfl) | (obtain ⟨A_, c_, e_⟩ := Kd.R_slice HO205.out; subst e_; (first | (go_simp; done) | (go_simp; rfl))) | (obtain ⟨A_, c_, e_⟩ := Kd.S_slice HO205.out; subst e_; (first | (go_simp; done) | (go_simp; rfl))) | (obtain ⟨A_, c_, e_⟩ := Kd.R_slice HO209.out; subst e_; (first | (go_simp; done) | (go_simp; rfl))) | (obtain ⟨A_, c_, e_⟩ := Kd.S_slice HO209.out; subst e_; (first | (go_simp; done) | (go_simp; rfl)))); (case hp => exact (Reps.none _ _)); intro v208 w64 ho65 hb hg_ hnew_; clear hg_ hnew_; (first | rw [← Ny207.out] at ho65 | (simp only [Int.reduceToNat] at ho65; rw [← Ny207.out] at ho65)); have n0_ := aM (Kd.R_elder' (kr HO205.out) (Kd.R_base ho65) hb); have n1_ := aM (Kd.R_lower (Kd.R_newB (Kd.R_new' ho65 (Kd.R_lt (kr HO205.out))) (g := gb167) (o := .cells #[.int .i64 a1, .int .i64 a2, .int .i64 a3, .int .i64 20] 40 (0, 0)) (bk BK167.out)) (below_size (bl HB.out))); have n2_ := aM (bB (g := gb167) (o := .cells #[.int .i64 a1, .int .i64 a2, .int .i64 a3, .int .i64 20] 40 (0, 0)) (bk BK167.out) hb); have n3_ := aM (bS (bl HB.out) hb); clear HO205 BK167 HB; have HO205 := n0_; have HO209 := n1_; have BK167 := n2_; have HB := n3_; clear n0_ n1_ n2_ n3_; clear hb ho65) | ((with_reducible refine gate_builtin (b := .append) (xs := #[.tmp 71, .tmp 72]) rfl ?_); at_builtin; refine Kd.R_append_rows k40 (w0 := w) w.heap.size rfl (.tmp 71) (.tmp 72) 24 40 (.agg #[(.int .i64 0), (.int .i64 0), (.int .i64 0), (.int .i64 0)]) 32 rfl Try.underlying24 info40 rfl (by decide) (by omega) v208 y207 l0 _ _ _ (fun k_ => some k_ ≠ (.slice Ao62 y203.length co62 : Value).ownBlock ∧ k_ ≠ gb167) (fun _ => False) rfl rfl ?aO ?aR (fun _ _ h => h) (fun _ h => h.elim) ?aF ?aB ?aS ?aL ?_; (case aR => repeat (first | exact (cB HR0.out HB.out) | (with_reducible refine Kd.C_alloc ?_ _) | (with_reducible refine Kd.C_drewN ?_ _) | (with_reducible refine Kd.C_drew ?_))); (case aB => exact (bl HB.out)); (case aF => exact (fun k_ hk => ⟨Kd.fresh' (Kd.R_lt (kr HO205.out)) k_ hk, Kd.freshB (g := gb167) (o := .cells #[.int .i64 a1, .int .i64 a2, .int .i64 a3, .int .i64 20] 40 (0, 0)) (bk BK167.out) k_ hk⟩)); (case aO => exact (kr (Kd.R_mono HO209.out (fun _ hk => ⟨hk.1.2, hk.2⟩)))); (case aS => exact (below_size (bl HB.out))); (case aL => have := LMc59.out; omega); intro v211 w66 ho hb hg hat; rw [← Ny210.out] at ho; have n0_ := aM (blk_grown (g := gb167) (o := .cells #[.int .i64 a1, .int .i64 a2, .int .i64 a3, .int .i64 20] 40 (0, 0)) (bk BK167.out) hg (Kd.R_away HO209.out (fun _ hk => hk.2))); have n1_ := aM (Kd.R_after (ok := (fun k_ => k_ ≠ gb167)) (kr HO205.out) hg hat); have n2_ := aM (hb); have n3_ := aM (ho); clear BK167 HO205; clear HB HO209; have BK167 := n0_; have HO205 := n1_; have HB := n2_; have HO212 := n3_; clear n0_ n1_ n2_ n3_; clear ho hb hg hat))
    go_ret
    exact ⟨_, xW, by (with_reducible repeat (first | apply Kd.R_alloc | apply Kd.R_drewN | apply Kd.R_drew)); exact Kd.R_mono HO212.out (fun _ hk => trivial), bl HB.out⟩
   rw [if_pos c9] at H
   have c9b0 : decide (x12_1 < (l0.length : Int)) = true := decide_eq_true c9
   clear c9
   have HC10 := aM H
   clear H
   go_upto_region 7 with (fail)
   go_cut [34] (fun v34 wc => ∃ (kq : Nat) (x34_9 : Bool), v34 = .bool x34_9 ∧ Aside0 (spec_Hear.j1 kq l0 a1 a2 x10_1 x11_1 x12_1 x34_9 a1 a2 a3 20 = some r) ∧ Aside0 (kq ≤ k1) ∧ Aside0 (Kd.R k40 40 wc w.heap.size (fun k_ => k_ ≠ gb167) u10 x10_1) ∧ Aside0 (wc.heap[gb167]? = some (.cells #[.int .i64 a1, .int .i64 a2, .int .i64 a3, .int .i64 20] 40 (0, 0))) ∧ Aside0 (Below w.heap.size w wc))
   case first =>
    have H := HC10.out
    clear HC10
    by_cases c11 : x11_1 = true
    case pos =>
     subst c11
     have H1 : (spec_Hear.j1 k1 l0 a1 a2 x10_1 true x12_1 false a1 a2 a3 20) = some r := by rw [if_pos rfl] at H; exact H
     clear H
     have H := H1
     clear H1
     have H' := aM H
     clear H
     try go_wp2
     have n0_ := aM (Kd.R_drew HO_10.out)
     have n1_ := aM (blk_drew BK167.out)
     have n2_ := aM (below_drew1 HB.out)
     clear HO_10 BK167 HB
     have HO_10 := n0_
     have BK167 := n1_
     have HB := n2_
     clear n0_ n1_ n2_
     refine start_ (n := 11) (S := fun w' => True) (ds := []) #[U,U,U,U,U,U,U,U,U,U,U] (by kernel_rfl) rfl rfl trivial (fun hHeld => ?_); refine with_tabW spec_Hear.tab7 spec_Hear.bits7 (fun HT_ HW_ => ?_)
     generalize wr.drew = w12 at HO_10 BK167 HB hHeld ⊢
     refine pure_ (i := 0) (N := some 24) (v := ?_) (a' := ?_) #[Y,U,U,U,U,U,U,U,U,U,U] rfl rfl (any_of HT_.out (by kernel_rfl)) (fun _ _ _ h => h) (Or.inl ⟨by rfl, ?_⟩) ?_ ?_
     rotate_left
     ·intro w'
      go_simp
      with_reducible rfl
     rotate_left
     ·simp only [Act.put, sA, sZ, sS, i64_w, i32_w]
      rfl
     refine pure_ (i := 1) (N := some 25) (v := ?_) (a' := ?_) #[Y,Y,U,U,U,U,U,U,U,U,U] rfl rfl (any_of HT_.out (by kernel_rfl)) (fun _ _ _ h => h) (Or.inl ⟨by rfl, ?_⟩) ?_ ?_
     rotate_left
     ·intro w'
      go_simp
      with_reducible rfl
     rotate_left
     ·simp only [Act.put, sA, sZ, sS, i64_w, i32_w]
      rfl
     refine pure_ (i := 2) (N := some 26) (v := ?_) (a' := ?_) #[Y,Y,Y,U,U,U,U,U,U,U,U] rfl rfl (any_of HT_.out (by kernel_rfl)) (fun _ _ _ h => h) (Or.inl ⟨by rfl, ?_⟩) ?_ ?_
     rotate_left
     ·intro w'
      go_simp
      with_reducible rfl
     rotate_left
     ·simp only [Act.put, sA, sZ, sS, i64_w, i32_w]
      rfl
     refine pure_ (i := 3) (N := some 27) (v := undef) (a' := ?_) #[Y,Y,Y,Y,U,U,U,U,U,U,U] rfl rfl (any_of HT_.out (by kernel_rfl)) (fun _ _ _ h => h) (Or.inr ⟨by rfl, rfl⟩) ?_ ?_
     rotate_left
     ·simp only [Act.put, sA, sZ, sS, i64_w, i32_w]
      rfl
     refine pure_ (i := 4) (N := some 28) (v := undef) (a' := ?_) #[Y,Y,Y,Y,Y,U,U,U,U,U,U] rfl rfl (any_of HT_.out (by kernel_rfl)) (fun _ _ _ h => h) (Or.inr ⟨by rfl, rfl⟩) ?_ ?_
     rotate_left
     ·simp only [Act.put, sA, sZ, sS, i64_w, i32_w]
      rfl
     refine pure_ (i := 5) (N := some 29) (v := undef) (a' := ?_) #[Y,Y,Y,Y,Y,Y,U,U,U,U,U] rfl rfl (any_of HT_.out (by kernel_rfl)) (fun _ _ _ h => h) (Or.inr ⟨by rfl, rfl⟩) ?_ ?_
     rotate_left
     ·simp only [Act.put, sA, sZ, sS, i64_w, i32_w]
      rfl
     refine pure_ (i := 6) (N := some 30) (v := undef) (a' := ?_) #[Y,Y,Y,Y,Y,Y,Y,U,U,U,U] rfl rfl (any_of HT_.out (by kernel_rfl)) (fun _ _ _ h => h) (Or.inr ⟨by rfl, rfl⟩) ?_ ?_
     rotate_left
     ·simp only [Act.put, sA, sZ, sS, i64_w, i32_w]
      rfl
     refine pure_ (i := 7) (N := some 31) (v := undef) (a' := ?_) #[Y,Y,Y,Y,Y,Y,Y,Y,U,U,U] rfl rfl (any_of HT_.out (by kernel_rfl)) (fun _ _ _ h => h) (Or.inr ⟨by rfl, rfl⟩) ?_ ?_
     rotate_left
     ·simp only [Act.put, sA, sZ, sS, i64_w, i32_w]
      rfl
     refine pure_ (i := 8) (N := some 32) (v := undef) (a' := ?_) #[Y,Y,Y,Y,Y,Y,Y,Y,Y,U,U] rfl rfl (any_of HT_.out (by kernel_rfl)) (fun _ _ _ h => h) (Or.inr ⟨by rfl, rfl⟩) ?_ ?_
     rotate_left
     ·simp only [Act.put, sA, sZ, sS, i64_w, i32_w]
      rfl
     refine pure_ (i := 9) (N := some 33) (v := undef) (a' := ?_) #[Y,Y,Y,Y,Y,Y,Y,Y,Y,Y,U] rfl rfl (any_of HT_.out (by kernel_rfl)) (fun _ _ _ h => h) (Or.inr ⟨by rfl, rfl⟩) ?_ ?_
     rotate_left
     ·simp only [Act.put, sA, sZ, sS, i64_w, i32_w]
      rfl
     refine pure_ (i := 10) (N := some 34) (v := ?_) (a' := ?_) #[Y,Y,Y,Y,Y,Y,Y,Y,Y,Y,Y] rfl rfl (any_of HT_.out (by kernel_rfl)) (fun _ _ _ h => h) (Or.inl ⟨by rfl, ?_⟩) ?_ ?_
     rotate_left
     ·intro w'
      go_simp
      with_reducible rfl
     rotate_left
     ·simp only [Act.put, sA, sZ, sS, i64_w, i32_w]
      rfl
     refine done_ (done_of HT_.out (by kernel_rfl)) ?_
     try go_wp2
     go_meet
     case rel => exact ⟨_, (false), xE, H', ⟨by have := HK1.out; first | omega | exact Nat.le_refl _⟩, ⟨kr HO_10.out⟩, ⟨by (with_reducible repeat (first | refine blk_drewN ?_ _ | refine blk_drew ?_ | refine blk_alloc ?_ _)); exact BK167.out⟩, ⟨bl HB.out⟩⟩
    replace c11 := Bool.eq_false_iff.mpr c11
    subst c11
    have H1 : (if 0 ≤ x12_1 then ((spec_l3Before.f ((rd_T40 l0 x12_1).f0) ((rd_T40 l0 x12_1).f1) ((rd_T40 l0 x12_1).f2) ((rd_T40 l0 x12_1).f3) a1 a2 a3 20).bind fun t172 => (spec_Hear.j1 k1 l0 a1 a2 x10_1 false x12_1 (!t172) a1 a2 a3 20)) else (none)) = some r := by rw [if_neg (show ¬ (false = true) by decide)] at H; exact H
    clear H
    have H := H1
    clear H1
    by_cases c13 : 0 ≤ x12_1
    case neg =>
     rw [if_neg c13] at H
     exact absurd H (by simp)
    rw [if_pos c13] at H
    have c13b0 : decide (0 ≤ x12_1) = true := decide_eq_true c13
    clear c13
    (first | rw [c13b0] | (simp only [i64_w, i32_w]; rw [c13b0]) | skip)
    replace H := Option.bind_eq_some_iff.mp H
    obtain ⟨t172, A140, H⟩ := H
    replace H : (spec_Hear.j1 k1 l0 a1 a2 x10_1 false x12_1 (!t172) a1 a2 a3 20) = some r := H
    have A14 := aM A140
    clear A140
    have H' := aM H
    clear H
    try go_wp2
    have n0_ := aM (Kd.R_drew HO_10.out)
    have n1_ := aM (blk_drew BK167.out)
    have n2_ := aM (below_drew1 HB.out)
    clear HO_10 BK167 HB
    have HO_10 := n0_
    have BK167 := n1_
    have HB := n2_
    clear n0_ n1_ n2_
    have p171 : 0 ≤ (x12_1 : Int) := of_decide_eq_true (by first | (with_reducible assumption) | assumption)
    have q171 : x12_1 < (l0.length : Int) := of_decide_eq_true (by first | (with_reducible assumption) | assumption)
    obtain ⟨ad171, e171, hx171_0, hx171_1, hx171_2, hx171_3⟩ := at_T40 HR0.out x12_1 p171 q171
    have hw171_3 := hx171_3
    have hw171_2 := hx171_2
    have hw171_1 := hx171_1
    have hw171_0 := hx171_0
    cases e171
    replace hx171_0 := (HB.out.cell (World.block_lt_of_cell? w _ hx171_0)).trans hx171_0
    replace hx171_1 := (HB.out.cell (World.block_lt_of_cell? w _ hx171_1)).trans hx171_1
    replace hx171_2 := (HB.out.cell (World.block_lt_of_cell? w _ hx171_2)).trans hx171_2
    replace hx171_3 := (HB.out.cell (World.block_lt_of_cell? w _ hx171_3)).trans hx171_3
    replace p171 := eq_true p171
    replace q171 := eq_true q171
    refine start_ (n := 11) (S := fun w' => w'.cell? ⟨gb167, 0, none⟩ = some (.int .i64 a1) ∧ w'.cell? ⟨gb167, 1, none⟩ = some (.int .i64 a2) ∧ w'.cell? ⟨gb167, 2, none⟩ = some (.int .i64 a3) ∧ w'.cell? ⟨gb167, 3, none⟩ = some (.int .i64 20) ∧ w'.cell? (ad171.add ((x12_1).toNat * 4)) = some (.int .i64 ((rd_T40 l0 x12_1).f0)) ∧ w'.cell? ⟨(ad171.add ((x12_1).toNat * 4)).block, (ad171.add ((x12_1).toNat * 4)).off + 1, none⟩ = some (.int .i64 ((rd_T40 l0 x12_1).f1)) ∧ w'.cell? ⟨(ad171.add ((x12_1).toNat * 4)).block, (ad171.add ((x12_1).toNat * 4)).off + 2, none⟩ = some (.int .i64 ((rd_T40 l0 x12_1).f2)) ∧ w'.cell? ⟨(ad171.add ((x12_1).toNat * 4)).block, (ad171.add ((x12_1).toNat * 4)).off + 3, none⟩ = some (.int .i64 ((rd_T40 l0 x12_1).f3))) (ds := []) #[U,U,U,U,U,U,U,U,U,U,U] (by kernel_rfl) rfl rfl ⟨cI BK167.out 0, cI BK167.out 1, cI BK167.out 2, cI BK167.out 3, ((HB.out.cell (World.block_lt_of_cell? w _ hw171_0)).trans hw171_0), ((HB.out.cell (World.block_lt_of_cell? w _ hw171_1)).trans hw171_1), ((HB.out.cell (World.block_lt_of_cell? w _ hw171_2)).trans hw171_2), ((HB.out.cell (World.block_lt_of_cell? w _ hw171_3)).trans hw171_3)⟩ (fun hHeld => ?_); refine with_tabW spec_Hear.tab7 spec_Hear.bits7 (fun HT_ HW_ => ?_)
    generalize wr.drew = w15 at HO_10 BK167 HB hx171_0 hx171_1 hx171_2 hx171_3 hHeld ⊢
    refine pure_ (i := 0) (N := some 24) (v := ?_) (a' := ?_) #[Y,U,U,U,U,U,U,U,U,U,U] rfl rfl (any_of HT_.out (by kernel_rfl)) (fun _ _ _ h => h) (Or.inl ⟨by rfl, ?_⟩) ?_ ?_
    rotate_left
    ·intro w'
     go_simp
     with_reducible rfl
    rotate_left
    ·simp only [Act.put, sA, sZ, sS, i64_w, i32_w]
     rfl
    refine pure_ (i := 1) (N := some 25) (v := ?_) (a' := ?_) #[Y,Y,U,U,U,U,U,U,U,U,U] rfl rfl (any_of HT_.out (by kernel_rfl)) (fun _ _ _ h => h) (Or.inl ⟨by rfl, ?_⟩) ?_ ?_
    rotate_left
    ·intro w'
     go_simp
     with_reducible rfl
    rotate_left
    ·simp only [Act.put, sA, sZ, sS, i64_w, i32_w]
     rfl
    refine pure_ (i := 2) (N := some 26) (v := ?_) (a' := ?_) #[Y,Y,Y,U,U,U,U,U,U,U,U] rfl rfl (any_of HT_.out (by kernel_rfl)) (fun _ _ _ h => h) (Or.inl ⟨by rfl, ?_⟩) ?_ ?_
    rotate_left
    ·intro w'
     go_simp
     with_reducible rfl
    rotate_left
    ·simp only [Act.put, sA, sZ, sS, i64_w, i32_w]
     rfl
    refine pure_ (i := 3) (N := some 27) (v := ?_) (a' := ?_) #[Y,Y,Y,Y,U,U,U,U,U,U,U] rfl rfl (any_of HT_.out (by kernel_rfl)) (fun _ _ _ h => h) (Or.inl ⟨by rfl, ?_⟩) ?_ ?_
    rotate_left
    ·intro w'
     go_simp
     with_reducible rfl
    rotate_left
    ·simp only [Act.put, sA, sZ, sS, i64_w, i32_w]
     rfl
    refine pure_ (i := 4) (N := some 28) (v := ?_) (a' := ?_) #[Y,Y,Y,Y,Y,U,U,U,U,U,U] rfl rfl (any_of HT_.out (by kernel_rfl)) (fun _ _ _ h => h) (Or.inl ⟨by rfl, ?_⟩) ?_ ?_
    rotate_left
    ·intro w'
     go_simp
     with_reducible rfl
    rotate_left
    ·simp only [Act.put, sA, sZ, sS, i64_w, i32_w]
     rfl
    refine pure_ (i := 5) (N := some 29) (v := ?_) (a' := ?_) #[Y,Y,Y,Y,Y,Y,U,U,U,U,U] rfl rfl (any_of HT_.out (by kernel_rfl)) (fun _ _ _ h => h) (Or.inl ⟨by rfl, ?_⟩) ?_ ?_
    rotate_left
    ·intro w'
     go_simp
     with_reducible rfl
    rotate_left
    ·simp only [Act.put, sA, sZ, sS, i64_w, i32_w]
     rfl
    refine take_ (i := 6) (N := some 30) (v := ?_) (a' := ?_) #[Y,Y,Y,Y,Y,Y,Y,U,U,U,U] rfl rfl (take_ofW HT_.out HW_.out (by kernel_rfl)) (fun _ _ _ h => h) (Or.inl ⟨by rfl, ?_⟩) hHeld ?_ ?_
    rotate_left
    ·rintro w' ⟨s0, s1, s2, s3, s4, s5, s6, s7⟩
     go_simp
     with_reducible rfl
    rotate_left
    ·simp only [Act.put, sA, sZ, sS, i64_w, i32_w]
     rfl
    refine take_ (i := 7) (N := some 31) (v := ?_) (a' := ?_) #[Y,Y,Y,Y,Y,Y,Y,Y,U,U,U] rfl rfl (take_ofW HT_.out HW_.out (by kernel_rfl)) (fun _ _ _ h => h) (Or.inl ⟨by rfl, ?_⟩) hHeld ?_ ?_
    rotate_left
    ·rintro w' ⟨s0, s1, s2, s3, s4, s5, s6, s7⟩
     go_simp
     with_reducible rfl
    rotate_left
    ·simp only [Act.put, sA, sZ, sS, i64_w, i32_w]
     rfl
    refine one_ (i := 8) (N := some 32) #[Y,Y,Y,Y,Y,Y,Y,Y,Y,U,U] rfl rfl (one_of HT_.out (by kernel_rfl)) (by decide) (fun K hK => ?_)
    refine goes_ Try.func80 (by kernel_rfl) rfl #[.agg #[.int .i64 ((rd_T40 l0 x12_1).f0), .int .i64 ((rd_T40 l0 x12_1).f1), .int .i64 ((rd_T40 l0 x12_1).f2), .int .i64 ((rd_T40 l0 x12_1).f3)], .agg #[.int .i64 a1, .int .i64 a2, .int .i64 a3, .int .i64 20]] (by rfl) rfl rfl xR ?_
    with_reducible refine (spec_l3Before.calls ((rd_T40 l0 x12_1).f0) ((rd_T40 l0 x12_1).f1) ((rd_T40 l0 x12_1).f2) ((rd_T40 l0 x12_1).f3) a1 a2 a3 20 t172 _ A14.out).mono ?_
    rintro e w16 ⟨rfl, hb⟩
    refine ⟨_, rfl, ?_⟩
    have n0_ := aM (kB (kr HO_10.out) hb)
    have n1_ := aM (bB (g := gb167) (o := .cells #[.int .i64 a1, .int .i64 a2, .int .i64 a3, .int .i64 20] 40 (0, 0)) (bk BK167.out) hb)
    have n2_ := aM (bS (bl HB.out) hb)
    clear HO_10 BK167 HB
    have HO_10 := n0_
    have BK167 := n1_
    have HB := n2_
    clear n0_ n1_ n2_
    (try clear hb)
    (try clear hb2)
    (try clear hk)
    (try clear hi)
    refine hK.out _ _ ⟨cI BK167.out 0, cI BK167.out 1, cI BK167.out 2, cI BK167.out 3, ((HB.out.cell (World.block_lt_of_cell? w _ hw171_0)).trans hw171_0), ((HB.out.cell (World.block_lt_of_cell? w _ hw171_1)).trans hw171_1), ((HB.out.cell (World.block_lt_of_cell? w _ hw171_2)).trans hw171_2), ((HB.out.cell (World.block_lt_of_cell? w _ hw171_3)).trans hw171_3)⟩ (fun hHeld => ?_)
    clear hK K
    refine norm_ (a' := ?_) ?_ ?_
    rotate_left
    ·show Act.put _ (some 32) _ = _
     simp only [Act.put, sA, sZ, sS, i64_w, i32_w]
     rfl
    refine pure_ (i := 9) (N := some 33) (v := ?_) (a' := ?_) #[Y,Y,Y,Y,Y,Y,Y,Y,Y,Y,U] rfl rfl (any_of HT_.out (by kernel_rfl)) (fun _ _ _ h => h) (Or.inl ⟨by rfl, ?_⟩) ?_ ?_
    rotate_left
    ·intro w'
     go_simp
     with_reducible rfl
    rotate_left
    ·simp only [Act.put, sA, sZ, sS, i64_w, i32_w]
     rfl
    refine pure_ (i := 10) (N := some 34) (v := ?_) (a' := ?_) #[Y,Y,Y,Y,Y,Y,Y,Y,Y,Y,Y] rfl rfl (any_of HT_.out (by kernel_rfl)) (fun _ _ _ h => h) (Or.inl ⟨by rfl, ?_⟩) ?_ ?_
    rotate_left
    ·intro w'
     go_simp
     with_reducible rfl
    rotate_left
    ·simp only [Act.put, sA, sZ, sS, i64_w, i32_w]
     rfl
    refine done_ (done_of HT_.out (by kernel_rfl)) ?_
    try go_wp2
    go_meet
    case rel => exact ⟨_, (!t172), xE, H', ⟨by have := HK1.out; first | omega | exact Nat.le_refl _⟩, ⟨kr HO_10.out⟩, ⟨by (with_reducible repeat (first | refine blk_drewN ?_ _ | refine blk_drew ?_ | refine blk_alloc ?_ _)); exact BK167.out⟩, ⟨bl HB.out⟩⟩
   case rest =>
    clear HC10
    try clear c1
    try clear p1
    try clear q1
    try clear hx1
    try clear c2
    try clear p2
    try clear c8
    try clear c9
    try clear c9b0
    try clear c11
    try clear c13
    try clear c13b0
    try clear hcz6_0
    try clear hcz6_1
    try clear hcz6_2
    try clear hcz6_3
    try clear hfz6_0
    try clear hfz6_1
    try clear hfz6_2
    try clear hfz6_3
    try clear hx171_0
    try clear hx171_1
    try clear hx171_2
    try clear hx171_3
    try clear p171
    try clear p2
    try clear q171
    obtain ⟨kq, x34_9, rfl, HA, HJ9, HO_10, BK167, HB⟩ := hcut
    cases kq with
    | zero => exact absurd HA.out (by simp [spec_Hear.j1])
    | succ kj9 =>
     have H := HA.out
     clear HA
     simp only [spec_Hear.j1] at H
     by_cases c17 : x34_9 = true
     case pos =>
      subst c17
      have H1 : (if x10_1.length < 4398046511104 then ((some (x10_1 ++ [(⟨a1, a2, a3, 20⟩ : S40)] : List (S40))).bind fun y173 => (if 0 ≤ x12_1 then (if x12_1 < (l0.length : Int) then (if ((rd_T40 l0 x12_1).f0) = a1 then (if ((rd_T40 l0 x12_1).f1) = a2 then (spec_Hear.l0 kj9 l0 a1 a2 y173 true (wrap64 (x12_1 + 1)) a1 a2 a3 20) else (if y173.length < 4398046511104 then (spec_Hear.l0 kj9 l0 a1 a2 (y173 ++ [(⟨(rd_T40 l0 x12_1).f0, (rd_T40 l0 x12_1).f1, (rd_T40 l0 x12_1).f2, (rd_T40 l0 x12_1).f3⟩ : S40)]) true (wrap64 (x12_1 + 1)) a1 a2 a3 20) else (none))) else (if y173.length < 4398046511104 then (spec_Hear.l0 kj9 l0 a1 a2 (y173 ++ [(⟨(rd_T40 l0 x12_1).f0, (rd_T40 l0 x12_1).f1, (rd_T40 l0 x12_1).f2, (rd_T40 l0 x12_1).f3⟩ : S40)]) true (wrap64 (x12_1 + 1)) a1 a2 a3 20) else (none))) else (none)) else (none))) else (none)) = some r := by rw [if_pos rfl] at H; exact H
      clear H
      have H := H1
      clear H1
      by_cases c18 : x10_1.length < 4398046511104
      case neg =>
       rw [if_neg c18] at H
       exact absurd H (by simp)
      rw [if_pos c18] at H
      have LMc18 := aM c18
      clear c18
      obtain ⟨y173, hy173⟩ : ∃ y_ : List (S40), y_ = (x10_1 ++ [(⟨a1, a2, a3, 20⟩ : S40)]) := ⟨_, rfl⟩
      replace H : (if 0 ≤ x12_1 then (if x12_1 < (l0.length : Int) then (if ((rd_T40 l0 x12_1).f0) = a1 then (if ((rd_T40 l0 x12_1).f1) = a2 then (spec_Hear.l0 kj9 l0 a1 a2 y173 true (wrap64 (x12_1 + 1)) a1 a2 a3 20) else (if y173.length < 4398046511104 then (spec_Hear.l0 kj9 l0 a1 a2 (y173 ++ [(⟨(rd_T40 l0 x12_1).f0, (rd_T40 l0 x12_1).f1, (rd_T40 l0 x12_1).f2, (rd_T40 l0 x12_1).f3⟩ : S40)]) true (wrap64 (x12_1 + 1)) a1 a2 a3 20) else (none))) else (if y173.length < 4398046511104 then (spec_Hear.l0 kj9 l0 a1 a2 (y173 ++ [(⟨(rd_T40 l0 x12_1).f0, (rd_T40 l0 x12_1).f1, (rd_T40 l0 x12_1).f2, (rd_T40 l0 x12_1).f3⟩ : S40)]) true (wrap64 (x12_1 + 1)) a1 a2 a3 20) else (none))) else (none)) else (none)) = some r := by first | (rw [hy173]; with_reducible exact H) | (have H2_ := (Option.bind_some _ _).symm.trans H; rw [hy173]; with_reducible exact H2_) | (have H2_ := (Option.bind_some _ _).symm.trans H; with_reducible exact H2_) | with_reducible exact H | (rw [hy173]; exact H) | exact H
      have Ny173 := aM hy173
      clear hy173
      by_cases c19 : 0 ≤ x12_1
      case neg =>
       rw [if_neg c19] at H
       exact absurd H (by simp)
      rw [if_pos c19] at H
      have c19b0 : decide (0 ≤ x12_1) = true := decide_eq_true c19
      clear c19
      by_cases c20 : x12_1 < (l0.length : Int)
      case neg =>
       rw [if_neg c20] at H
       exact absurd H (by simp)
      rw [if_pos c20] at H
      have c20b0 : decide (x12_1 < (l0.length : Int)) = true := decide_eq_true c20
      clear c20
      by_cases c21 : ((rd_T40 l0 x12_1).f0) = a1
      case neg =>
       rw [if_neg c21] at H
       have c21b0 : (((rd_T40 l0 x12_1).f0) == a1) = false := beq_eq_false_iff_ne.mpr c21
       have c21b1 : (((rd_T40 l0 x12_1).f0) != a1) = true := bne_iff_ne.mpr c21
       by_cases c29 : y173.length < 4398046511104
       case neg =>
        rw [if_neg c29] at H
        exact absurd H (by simp)
       rw [if_pos c29] at H
       have LMc29 := aM c29
       clear c29
       obtain ⟨y183, hy183⟩ : ∃ y_ : List (S40), y_ = (y173 ++ [(⟨(rd_T40 l0 x12_1).f0, (rd_T40 l0 x12_1).f1, (rd_T40 l0 x12_1).f2, (rd_T40 l0 x12_1).f3⟩ : S40)]) := ⟨_, rfl⟩
       replace H : (spec_Hear.l0 kj9 l0 a1 a2 y183 true (wrap64 (x12_1 + 1)) a1 a2 a3 20) = some r := by first | (rw [hy183]; with_reducible exact H) | (have H2_ := (Option.bind_some _ _).symm.trans H; rw [hy183]; with_reducible exact H2_) | (have H2_ := (Option.bind_some _ _).symm.trans H; with_reducible exact H2_) | with_reducible exact H | (rw [hy183]; exact H) | exact H
       have Ny183 := aM hy183
       clear hy183
       have H' := aM H
       clear H
       have hcz30_0 := cI BK167.out 0
       have hcz30_1 := cI BK167.out 1
       have hcz30_2 := cI BK167.out 2
       have hcz30_3 := cI BK167.out 3
       have hfz30_0 := bF BK167.out 0
       have hfz30_1 := bF BK167.out 1
       have hfz30_2 := bF BK167.out 2
       have hfz30_3 := bF BK167.out 3
       go_wp2_with (first | ((with_reducible refine gate_builtin (b := .append) (xs := #[.tmp 35, .tmp 37]) rfl ?_); at_builtin; refine Kd.R_append k40 (w0 := w) w.heap.size rfl (.tmp 35) (.tmp 37) 24 40 (.agg #[(.int .i64 0), (.int .i64 0), (.int .i64 0), (.int .i64 0)]) 32 rfl Try.underlying24 info40 rfl (by decide) (by omega) u10 x10_1 (⟨a1, a2, a3, 20⟩ : S40) [.int .i64 a1, .int .i64 a2, .int .i64 a3, .int .i64 20] (fun k_ => k_ ≠ gb167) (fun _ => False) rfl rfl ?aP (fun _ hk => hk.elim) ?aF ?aO ?aB ?aS ?aL ?_; (case aP => exact k40_mkM _ _ _ (⟨a1, a2, a3, 20⟩ : S40)); (case aB => exact (bl HB.out)); (case aF => exact (fun k_ hk => Kd.freshB (g := gb167) (o := .cells #[.int .i64 a1, .int .i64 a2, .int .i64 a3, .int .i64 20] 40 (0, 0)) (bk BK167.out) k_ hk)); (case aO => exact (kr HO_10.out)); (case aS => exact (below_size (bl HB.out))); (case aL => have := LMc18.out; omega); intro v174 w31 ho hb hg hat; rw [← Ny173.out] at ho; have n0_ := aM (blk_grown (g := gb167) (o := .cells #[.int .i64 a1, .int .i64 a2, .int .i64 a3, .int .i64 20] 40 (0, 0)) (bk BK167.out) hg (Kd.R_away HO_10.out (fun _ hk => hk))); have n1_ := aM (hb); have n2_ := aM (ho); clear BK167 HB HO_10; have BK167 := n0_; have HB := n1_; have HO175 := n2_; clear n0_ n1_ n2_; clear ho hb hg hat; have p176 : 0 ≤ (x12_1 : Int) := of_decide_eq_true (by first | (with_reducible assumption) | assumption); have q176 : x12_1 < (l0.length : Int) := of_decide_eq_true (by first | (with_reducible assumption) | assumption); obtain ⟨ad176, e176, hx176_0, hx176_1, hx176_2, hx176_3⟩ := at_T40 HR0.out x12_1 p176 q176; cases e176; replace hx176_0 := (HB.out.cell (World.block_lt_of_cell? w _ hx176_0)).trans hx176_0; replace hx176_1 := (HB.out.cell (World.block_lt_of_cell? w _ hx176_1)).trans hx176_1; replace hx176_2 := (HB.out.cell (World.block_lt_of_cell? w _ hx176_2)).trans hx176_2; replace hx176_3 := (HB.out.cell (World.block_lt_of_cell? w _ hx176_3)).trans hx176_3; replace p176 := eq_true p176; replace q176 := eq_true q176; have p182 : 0 ≤ (x12_1 : Int) := of_decide_eq_true (by first | (with_reducible assumption) | assumption); have q182 : x12_1 < (l0.length : Int) := of_decide_eq_true (by first | (with_reducible assumption) | assumption); obtain ⟨ad182, e182, hx182_0, hx182_1, hx182_2, hx182_3⟩ := at_T40 HR0.out x12_1 p182 q182; obtain rfl : ad176 = ad182 := (by injection e182); replace hx182_0 := (HB.out.cell (World.block_lt_of_cell? w _ hx182_0)).trans hx182_0; replace hx182_1 := (HB.out.cell (World.block_lt_of_cell? w _ hx182_1)).trans hx182_1; replace hx182_2 := (HB.out.cell (World.block_lt_of_cell? w _ hx182_2)).trans hx182_2; replace hx182_3 := (HB.out.cell (World.block_lt_of_cell? w _ hx182_3)).trans hx182_3; replace p182 := eq_true p182; replace q182 := eq_true q182) | ((with_reducible refine gate_builtin (b := .append) (xs := #[.tmp 55, .tmp 60]) rfl ?_); at_builtin; refine Kd.R_append k40 (w0 := w) w.heap.size rfl (.tmp 55) (.tmp 60) 24 40 (.agg #[(.int .i64 0), (.int .i64 0), (.int .i64 0), (.int .i64 0)]) 32 rfl Try.underlying24 info40 rfl (by decide) (by omega) v174 y173 (⟨(rd_T40 l0 x12_1).f0, (rd_T40 l0 x12_1).f1, (rd_T40 l0 x12_1).f2, (rd_T40 l0 x12_1).f3⟩ : S40) [.int .i64 ((rd_T40 l0 x12_1).f0), .int .i64 ((rd_T40 l0 x12_1).f1), .int .i64 ((rd_T40 l0 x12_1).f2), .int .i64 ((rd_T40 l0 x12_1).f3)] (fun k_ => k_ ≠ gb167) (fun _ => False) rfl rfl ?aP (fun _ hk => hk.elim) ?aF ?aO ?aB ?aS ?aL ?_; (case aP => exact k40_mkM _ _ _ (⟨(rd_T40 l0 x12_1).f0, (rd_T40 l0 x12_1).f1, (rd_T40 l0 x12_1).f2, (rd_T40 l0 x12_1).f3⟩ : S40)); (case aB => exact (bl HB.out)); (case aF => exact (fun k_ hk => Kd.freshB (g := gb167) (o := .cells #[.int .i64 a1, .int .i64 a2, .int .i64 a3, .int .i64 20] 40 (0, 0)) (bk BK167.out) k_ hk)); (case aO => exact (kr HO175.out)); (case aS => exact (below_size (bl HB.out))); (case aL => have := LMc29.out; omega); intro v184 w32 ho hb hg hat; rw [← Ny183.out] at ho; have n0_ := aM (blk_grown (g := gb167) (o := .cells #[.int .i64 a1, .int .i64 a2, .int .i64 a3, .int .i64 20] 40 (0, 0)) (bk BK167.out) hg (Kd.R_away HO175.out (fun _ hk => hk))); have n1_ := aM (hb); have n2_ := aM (ho); clear BK167 HB HO175; have BK167 := n0_; have HB := n1_; have HO185 := n2_; clear n0_ n1_ n2_; clear ho hb hg hat))
       go_roundg kj9
       case measure => have := HK1.out; have := HJ9.out; omega
       case rel => exact ⟨(y183), (true), (wrap64 (x12_1 + 1)), xE, xE, H', ⟨by have := HK1.out; have := HJ9.out; omega⟩, ⟨kr HO185.out⟩, ⟨by (with_reducible repeat (first | refine blk_drewN ?_ _ | refine blk_drew ?_ | refine blk_alloc ?_ _)); exact BK167.out⟩, ⟨bl HB.out⟩⟩
      rw [if_pos c21] at H
      have c21b0 : (((rd_T40 l0 x12_1).f0) == a1) = true := beq_iff_eq.mpr c21
      have c21b1 : (((rd_T40 l0 x12_1).f0) != a1) = false := bne_eq_false_iff_eq.mpr c21
      clear c21
      by_cases c22 : ((rd_T40 l0 x12_1).f1) = a2
      case pos =>
       rw [if_pos c22] at H
       have c22b0 : (((rd_T40 l0 x12_1).f1) == a2) = true := beq_iff_eq.mpr c22
       have c22b1 : (((rd_T40 l0 x12_1).f1) != a2) = false := bne_eq_false_iff_eq.mpr c22
       clear c22
       have H' := aM H
       clear H
       have hcz23_0 := cI BK167.out 0
       have hcz23_1 := cI BK167.out 1
       have hcz23_2 := cI BK167.out 2
       have hcz23_3 := cI BK167.out 3
       have hfz23_0 := bF BK167.out 0
       have hfz23_1 := bF BK167.out 1
       have hfz23_2 := bF BK167.out 2
       have hfz23_3 := bF BK167.out 3
       go_wp2_with (first | ((with_reducible refine gate_builtin (b := .append) (xs := #[.tmp 35, .tmp 37]) rfl ?_); at_builtin; refine Kd.R_append k40 (w0 := w) w.heap.size rfl (.tmp 35) (.tmp 37) 24 40 (.agg #[(.int .i64 0), (.int .i64 0), (.int .i64 0), (.int .i64 0)]) 32 rfl Try.underlying24 info40 rfl (by decide) (by omega) u10 x10_1 (⟨a1, a2, a3, 20⟩ : S40) [.int .i64 a1, .int .i64 a2, .int .i64 a3, .int .i64 20] (fun k_ => k_ ≠ gb167) (fun _ => False) rfl rfl ?aP (fun _ hk => hk.elim) ?aF ?aO ?aB ?aS ?aL ?_; (case aP => exact k40_mkM _ _ _ (⟨a1, a2, a3, 20⟩ : S40)); (case aB => exact (bl HB.out)); (case aF => exact (fun k_ hk => Kd.freshB (g := gb167) (o := .cells #[.int .i64 a1, .int .i64 a2, .int .i64 a3, .int .i64 20] 40 (0, 0)) (bk BK167.out) k_ hk)); (case aO => exact (kr HO_10.out)); (case aS => exact (below_size (bl HB.out))); (case aL => have := LMc18.out; omega); intro v174 w24 ho hb hg hat; rw [← Ny173.out] at ho; have n0_ := aM (blk_grown (g := gb167) (o := .cells #[.int .i64 a1, .int .i64 a2, .int .i64 a3, .int .i64 20] 40 (0, 0)) (bk BK167.out) hg (Kd.R_away HO_10.out (fun _ hk => hk))); have n1_ := aM (hb); have n2_ := aM (ho); clear BK167 HB HO_10; have BK167 := n0_; have HB := n1_; have HO175 := n2_; clear n0_ n1_ n2_; clear ho hb hg hat; have p176 : 0 ≤ (x12_1 : Int) := of_decide_eq_true (by first | (with_reducible assumption) | assumption); have q176 : x12_1 < (l0.length : Int) := of_decide_eq_true (by first | (with_reducible assumption) | assumption); obtain ⟨ad176, e176, hx176_0, hx176_1, hx176_2, hx176_3⟩ := at_T40 HR0.out x12_1 p176 q176; cases e176; replace hx176_0 := (HB.out.cell (World.block_lt_of_cell? w _ hx176_0)).trans hx176_0; replace hx176_1 := (HB.out.cell (World.block_lt_of_cell? w _ hx176_1)).trans hx176_1; replace hx176_2 := (HB.out.cell (World.block_lt_of_cell? w _ hx176_2)).trans hx176_2; replace hx176_3 := (HB.out.cell (World.block_lt_of_cell? w _ hx176_3)).trans hx176_3; replace p176 := eq_true p176; replace q176 := eq_true q176; have p177 : 0 ≤ (x12_1 : Int) := of_decide_eq_true (by first | (with_reducible assumption) | assumption); have q177 : x12_1 < (l0.length : Int) := of_decide_eq_true (by first | (with_reducible assumption) | assumption); obtain ⟨ad177, e177, hx177_0, hx177_1, hx177_2, hx177_3⟩ := at_T40 HR0.out x12_1 p177 q177; obtain rfl : ad176 = ad177 := (by injection e177); replace hx177_0 := (HB.out.cell (World.block_lt_of_cell? w _ hx177_0)).trans hx177_0; replace hx177_1 := (HB.out.cell (World.block_lt_of_cell? w _ hx177_1)).trans hx177_1; replace hx177_2 := (HB.out.cell (World.block_lt_of_cell? w _ hx177_2)).trans hx177_2; replace hx177_3 := (HB.out.cell (World.block_lt_of_cell? w _ hx177_3)).trans hx177_3; replace p177 := eq_true p177; replace q177 := eq_true q177))
       go_roundg kj9
       case measure => have := HK1.out; have := HJ9.out; omega
       case rel => exact ⟨(y173), (true), (wrap64 (x12_1 + 1)), xE, xE, H', ⟨by have := HK1.out; have := HJ9.out; omega⟩, ⟨kr HO175.out⟩, ⟨by (with_reducible repeat (first | refine blk_drewN ?_ _ | refine blk_drew ?_ | refine blk_alloc ?_ _)); exact BK167.out⟩, ⟨bl HB.out⟩⟩
      rw [if_neg c22] at H
      have c22b0 : (((rd_T40 l0 x12_1).f1) == a2) = false := beq_eq_false_iff_ne.mpr c22
      have c22b1 : (((rd_T40 l0 x12_1).f1) != a2) = true := bne_iff_ne.mpr c22
      by_cases c25 : y173.length < 4398046511104
      case neg =>
       rw [if_neg c25] at H
       exact absurd H (by simp)
      rw [if_pos c25] at H
      have LMc25 := aM c25
      clear c25
      obtain ⟨y179, hy179⟩ : ∃ y_ : List (S40), y_ = (y173 ++ [(⟨(rd_T40 l0 x12_1).f0, (rd_T40 l0 x12_1).f1, (rd_T40 l0 x12_1).f2, (rd_T40 l0 x12_1).f3⟩ : S40)]) := ⟨_, rfl⟩
      replace H : (spec_Hear.l0 kj9 l0 a1 a2 y179 true (wrap64 (x12_1 + 1)) a1 a2 a3 20) = some r := by first | (rw [hy179]; with_reducible exact H) | (have H2_ := (Option.bind_some _ _).symm.trans H; rw [hy179]; with_reducible exact H2_) | (have H2_ := (Option.bind_some _ _).symm.trans H; with_reducible exact H2_) | with_reducible exact H | (rw [hy179]; exact H) | exact H
      have Ny179 := aM hy179
      clear hy179
      have H' := aM H
      clear H
      have hcz26_0 := cI BK167.out 0
      have hcz26_1 := cI BK167.out 1
      have hcz26_2 := cI BK167.out 2
      have hcz26_3 := cI BK167.out 3
      have hfz26_0 := bF BK167.out 0
      have hfz26_1 := bF BK167.out 1
      have hfz26_2 := bF BK167.out 2
      have hfz26_3 := bF BK167.out 3
      go_wp2_with (first | ((with_reducible refine gate_builtin (b := .append) (xs := #[.tmp 35, .tmp 37]) rfl ?_); at_builtin; refine Kd.R_append k40 (w0 := w) w.heap.size rfl (.tmp 35) (.tmp 37) 24 40 (.agg #[(.int .i64 0), (.int .i64 0), (.int .i64 0), (.int .i64 0)]) 32 rfl Try.underlying24 info40 rfl (by decide) (by omega) u10 x10_1 (⟨a1, a2, a3, 20⟩ : S40) [.int .i64 a1, .int .i64 a2, .int .i64 a3, .int .i64 20] (fun k_ => k_ ≠ gb167) (fun _ => False) rfl rfl ?aP (fun _ hk => hk.elim) ?aF ?aO ?aB ?aS ?aL ?_; (case aP => exact k40_mkM _ _ _ (⟨a1, a2, a3, 20⟩ : S40)); (case aB => exact (bl HB.out)); (case aF => exact (fun k_ hk => Kd.freshB (g := gb167) (o := .cells #[.int .i64 a1, .int .i64 a2, .int .i64 a3, .int .i64 20] 40 (0, 0)) (bk BK167.out) k_ hk)); (case aO => exact (kr HO_10.out)); (case aS => exact (below_size (bl HB.out))); (case aL => have := LMc18.out; omega); intro v174 w27 ho hb hg hat; rw [← Ny173.out] at ho; have n0_ := aM (blk_grown (g := gb167) (o := .cells #[.int .i64 a1, .int .i64 a2, .int .i64 a3, .int .i64 20] 40 (0, 0)) (bk BK167.out) hg (Kd.R_away HO_10.out (fun _ hk => hk))); have n1_ := aM (hb); have n2_ := aM (ho); clear BK167 HB HO_10; have BK167 := n0_; have HB := n1_; have HO175 := n2_; clear n0_ n1_ n2_; clear ho hb hg hat; have p176 : 0 ≤ (x12_1 : Int) := of_decide_eq_true (by first | (with_reducible assumption) | assumption); have q176 : x12_1 < (l0.length : Int) := of_decide_eq_true (by first | (with_reducible assumption) | assumption); obtain ⟨ad176, e176, hx176_0, hx176_1, hx176_2, hx176_3⟩ := at_T40 HR0.out x12_1 p176 q176; cases e176; replace hx176_0 := (HB.out.cell (World.block_lt_of_cell? w _ hx176_0)).trans hx176_0; replace hx176_1 := (HB.out.cell (World.block_lt_of_cell? w _ hx176_1)).trans hx176_1; replace hx176_2 := (HB.out.cell (World.block_lt_of_cell? w _ hx176_2)).trans hx176_2; replace hx176_3 := (HB.out.cell (World.block_lt_of_cell? w _ hx176_3)).trans hx176_3; replace p176 := eq_true p176; replace q176 := eq_true q176; have p177 : 0 ≤ (x12_1 : Int) := of_decide_eq_true (by first | (with_reducible assumption) | assumption); have q177 : x12_1 < (l0.length : Int) := of_decide_eq_true (by first | (with_reducible assumption) | assumption); obtain ⟨ad177, e177, hx177_0, hx177_1, hx177_2, hx177_3⟩ := at_T40 HR0.out x12_1 p177 q177; obtain rfl : ad176 = ad177 := (by injection e177); replace hx177_0 := (HB.out.cell (World.block_lt_of_cell? w _ hx177_0)).trans hx177_0; replace hx177_1 := (HB.out.cell (World.block_lt_of_cell? w _ hx177_1)).trans hx177_1; replace hx177_2 := (HB.out.cell (World.block_lt_of_cell? w _ hx177_2)).trans hx177_2; replace hx177_3 := (HB.out.cell (World.block_lt_of_cell? w _ hx177_3)).trans hx177_3; replace p177 := eq_true p177; replace q177 := eq_true q177; have p178 : 0 ≤ (x12_1 : Int) := of_decide_eq_true (by first | (with_reducible assumption) | assumption); have q178 : x12_1 < (l0.length : Int) := of_decide_eq_true (by first | (with_reducible assumption) | assumption); obtain ⟨ad178, e178, hx178_0, hx178_1, hx178_2, hx178_3⟩ := at_T40 HR0.out x12_1 p178 q178; obtain rfl : ad176 = ad178 := (by injection e178); replace hx178_0 := (HB.out.cell (World.block_lt_of_cell? w _ hx178_0)).trans hx178_0; replace hx178_1 := (HB.out.cell (World.block_lt_of_cell? w _ hx178_1)).trans hx178_1; replace hx178_2 := (HB.out.cell (World.block_lt_of_cell? w _ hx178_2)).trans hx178_2; replace hx178_3 := (HB.out.cell (World.block_lt_of_cell? w _ hx178_3)).trans hx178_3; replace p178 := eq_true p178; replace q178 := eq_true q178) | ((with_reducible refine gate_builtin (b := .append) (xs := #[.tmp 55, .tmp 60]) rfl ?_); at_builtin; refine Kd.R_append k40 (w0 := w) w.heap.size rfl (.tmp 55) (.tmp 60) 24 40 (.agg #[(.int .i64 0), (.int .i64 0), (.int .i64 0), (.int .i64 0)]) 32 rfl Try.underlying24 info40 rfl (by decide) (by omega) v174 y173 (⟨(rd_T40 l0 x12_1).f0, (rd_T40 l0 x12_1).f1, (rd_T40 l0 x12_1).f2, (rd_T40 l0 x12_1).f3⟩ : S40) [.int .i64 ((rd_T40 l0 x12_1).f0), .int .i64 ((rd_T40 l0 x12_1).f1), .int .i64 ((rd_T40 l0 x12_1).f2), .int .i64 ((rd_T40 l0 x12_1).f3)] (fun k_ => k_ ≠ gb167) (fun _ => False) rfl rfl ?aP (fun _ hk => hk.elim) ?aF ?aO ?aB ?aS ?aL ?_; (case aP => exact k40_mkM _ _ _ (⟨(rd_T40 l0 x12_1).f0, (rd_T40 l0 x12_1).f1, (rd_T40 l0 x12_1).f2, (rd_T40 l0 x12_1).f3⟩ : S40)); (case aB => exact (bl HB.out)); (case aF => exact (fun k_ hk => Kd.freshB (g := gb167) (o := .cells #[.int .i64 a1, .int .i64 a2, .int .i64 a3, .int .i64 20] 40 (0, 0)) (bk BK167.out) k_ hk)); (case aO => exact (kr HO175.out)); (case aS => exact (below_size (bl HB.out))); (case aL => have := LMc25.out; omega); intro v180 w28 ho hb hg hat; rw [← Ny179.out] at ho; have n0_ := aM (blk_grown (g := gb167) (o := .cells #[.int .i64 a1, .int .i64 a2, .int .i64 a3, .int .i64 20] 40 (0, 0)) (bk BK167.out) hg (Kd.R_away HO175.out (fun _ hk => hk))); have n1_ := aM (hb); have n2_ := aM (ho); clear BK167 HB HO175; have BK167 := n0_; have HB := n1_; have HO181 := n2_; clear n0_ n1_ n2_; clear ho hb hg hat))
      go_roundg kj9
      case measure => have := HK1.out; have := HJ9.out; omega
      case rel => exact ⟨(y179), (true), (wrap64 (x12_1 + 1)), xE, xE, H', ⟨by have := HK1.out; have := HJ9.out; omega⟩, ⟨kr HO181.out⟩, ⟨by (with_reducible repeat (first | refine blk_drewN ?_ _ | refine blk_drew ?_ | refine blk_alloc ?_ _)); exact BK167.out⟩, ⟨bl HB.out⟩⟩
     replace c17 := Bool.eq_false_iff.mpr c17
     subst c17
     have H1 : (if 0 ≤ x12_1 then (if x12_1 < (l0.length : Int) then (if ((rd_T40 l0 x12_1).f0) = a1 then (if ((rd_T40 l0 x12_1).f1) = a2 then (spec_Hear.l0 kj9 l0 a1 a2 x10_1 x11_1 (wrap64 (x12_1 + 1)) a1 a2 a3 20) else (if x10_1.length < 4398046511104 then (spec_Hear.l0 kj9 l0 a1 a2 (x10_1 ++ [(⟨(rd_T40 l0 x12_1).f0, (rd_T40 l0 x12_1).f1, (rd_T40 l0 x12_1).f2, (rd_T40 l0 x12_1).f3⟩ : S40)]) x11_1 (wrap64 (x12_1 + 1)) a1 a2 a3 20) else (none))) else (if x10_1.length < 4398046511104 then (spec_Hear.l0 kj9 l0 a1 a2 (x10_1 ++ [(⟨(rd_T40 l0 x12_1).f0, (rd_T40 l0 x12_1).f1, (rd_T40 l0 x12_1).f2, (rd_T40 l0 x12_1).f3⟩ : S40)]) x11_1 (wrap64 (x12_1 + 1)) a1 a2 a3 20) else (none))) else (none)) else (none)) = some r := by rw [if_neg (show ¬ (false = true) by decide)] at H; exact H
     clear H
     have H := H1
     clear H1
     by_cases c33 : 0 ≤ x12_1
     case neg =>
      rw [if_neg c33] at H
      exact absurd H (by simp)
     rw [if_pos c33] at H
     have c33b0 : decide (0 ≤ x12_1) = true := decide_eq_true c33
     clear c33
     by_cases c34 : x12_1 < (l0.length : Int)
     case neg =>
      rw [if_neg c34] at H
      exact absurd H (by simp)
     rw [if_pos c34] at H
     have c34b0 : decide (x12_1 < (l0.length : Int)) = true := decide_eq_true c34
     clear c34
     by_cases c35 : ((rd_T40 l0 x12_1).f0) = a1
     case neg =>
      rw [if_neg c35] at H
      have c35b0 : (((rd_T40 l0 x12_1).f0) == a1) = false := beq_eq_false_iff_ne.mpr c35
      have c35b1 : (((rd_T40 l0 x12_1).f0) != a1) = true := bne_iff_ne.mpr c35
      by_cases c39 : x10_1.length < 4398046511104
      case neg =>
       rw [if_neg c39] at H
       exact absurd H (by simp)
      rw [if_pos c39] at H
      have LMc39 := aM c39
      clear c39
      obtain ⟨y193, hy193⟩ : ∃ y_ : List (S40), y_ = (x10_1 ++ [(⟨(rd_T40 l0 x12_1).f0, (rd_T40 l0 x12_1).f1, (rd_T40 l0 x12_1).f2, (rd_T40 l0 x12_1).f3⟩ : S40)]) := ⟨_, rfl⟩
      replace H : (spec_Hear.l0 kj9 l0 a1 a2 y193 x11_1 (wrap64 (x12_1 + 1)) a1 a2 a3 20) = some r := by first | (rw [hy193]; with_reducible exact H) | (have H2_ := (Option.bind_some _ _).symm.trans H; rw [hy193]; with_reducible exact H2_) | (have H2_ := (Option.bind_some _ _).symm.trans H; with_reducible exact H2_) | with_reducible exact H | (rw [hy193]; exact H) | exact H
      have Ny193 := aM hy193
      clear hy193
      have H' := aM H
      clear H
      have p186 : 0 ≤ (x12_1 : Int) := of_decide_eq_true (by first | (with_reducible assumption) | assumption)
      have q186 : x12_1 < (l0.length : Int) := of_decide_eq_true (by first | (with_reducible assumption) | assumption)
      obtain ⟨ad186, e186, hx186_0, hx186_1, hx186_2, hx186_3⟩ := at_T40 HR0.out x12_1 p186 q186
      cases e186
      replace hx186_0 := (HB.out.cell (World.block_lt_of_cell? w _ hx186_0)).trans hx186_0
      replace hx186_1 := (HB.out.cell (World.block_lt_of_cell? w _ hx186_1)).trans hx186_1
      replace hx186_2 := (HB.out.cell (World.block_lt_of_cell? w _ hx186_2)).trans hx186_2
      replace hx186_3 := (HB.out.cell (World.block_lt_of_cell? w _ hx186_3)).trans hx186_3
      replace p186 := eq_true p186
      replace q186 := eq_true q186
      have p192 : 0 ≤ (x12_1 : Int) := of_decide_eq_true (by first | (with_reducible assumption) | assumption)
      have q192 : x12_1 < (l0.length : Int) := of_decide_eq_true (by first | (with_reducible assumption) | assumption)
      obtain ⟨ad192, e192, hx192_0, hx192_1, hx192_2, hx192_3⟩ := at_T40 HR0.out x12_1 p192 q192
      obtain rfl : ad186 = ad192 := (by injection e192)
      replace hx192_0 := (HB.out.cell (World.block_lt_of_cell? w _ hx192_0)).trans hx192_0
      replace hx192_1 := (HB.out.cell (World.block_lt_of_cell? w _ hx192_1)).trans hx192_1
      replace hx192_2 := (HB.out.cell (World.block_lt_of_cell? w _ hx192_2)).trans hx192_2
      replace hx192_3 := (HB.out.cell (World.block_lt_of_cell? w _ hx192_3)).trans hx192_3
      replace p192 := eq_true p192
      replace q192 := eq_true q192
      go_wp2_with (first | ((with_reducible refine gate_builtin (b := .append) (xs := #[.tmp 55, .tmp 60]) rfl ?_); at_builtin; refine Kd.R_append k40 (w0 := w) w.heap.size rfl (.tmp 55) (.tmp 60) 24 40 (.agg #[(.int .i64 0), (.int .i64 0), (.int .i64 0), (.int .i64 0)]) 32 rfl Try.underlying24 info40 rfl (by decide) (by omega) u10 x10_1 (⟨(rd_T40 l0 x12_1).f0, (rd_T40 l0 x12_1).f1, (rd_T40 l0 x12_1).f2, (rd_T40 l0 x12_1).f3⟩ : S40) [.int .i64 ((rd_T40 l0 x12_1).f0), .int .i64 ((rd_T40 l0 x12_1).f1), .int .i64 ((rd_T40 l0 x12_1).f2), .int .i64 ((rd_T40 l0 x12_1).f3)] (fun k_ => k_ ≠ gb167) (fun _ => False) rfl rfl ?aP (fun _ hk => hk.elim) ?aF ?aO ?aB ?aS ?aL ?_; (case aP => exact k40_mkM _ _ _ (⟨(rd_T40 l0 x12_1).f0, (rd_T40 l0 x12_1).f1, (rd_T40 l0 x12_1).f2, (rd_T40 l0 x12_1).f3⟩ : S40)); (case aB => exact (bl HB.out)); (case aF => exact (fun k_ hk => Kd.freshB (g := gb167) (o := .cells #[.int .i64 a1, .int .i64 a2, .int .i64 a3, .int .i64 20] 40 (0, 0)) (bk BK167.out) k_ hk)); (case aO => exact (kr HO_10.out)); (case aS => exact (below_size (bl HB.out))); (case aL => have := LMc39.out; omega); intro v194 w40 ho hb hg hat; rw [← Ny193.out] at ho; have n0_ := aM (blk_grown (g := gb167) (o := .cells #[.int .i64 a1, .int .i64 a2, .int .i64 a3, .int .i64 20] 40 (0, 0)) (bk BK167.out) hg (Kd.R_away HO_10.out (fun _ hk => hk))); have n1_ := aM (hb); have n2_ := aM (ho); clear BK167 HB HO_10; have BK167 := n0_; have HB := n1_; have HO195 := n2_; clear n0_ n1_ n2_; clear ho hb hg hat))
      go_roundg kj9
      case measure => have := HK1.out; have := HJ9.out; omega
      case rel => exact ⟨(y193), (x11_1), (wrap64 (x12_1 + 1)), xE, xE, H', ⟨by have := HK1.out; have := HJ9.out; omega⟩, ⟨kr HO195.out⟩, ⟨by (with_reducible repeat (first | refine blk_drewN ?_ _ | refine blk_drew ?_ | refine blk_alloc ?_ _)); exact BK167.out⟩, ⟨bl HB.out⟩⟩
     rw [if_pos c35] at H
     have c35b0 : (((rd_T40 l0 x12_1).f0) == a1) = true := beq_iff_eq.mpr c35
     have c35b1 : (((rd_T40 l0 x12_1).f0) != a1) = false := bne_eq_false_iff_eq.mpr c35
     clear c35
     by_cases c36 : ((rd_T40 l0 x12_1).f1) = a2
     case pos =>
      rw [if_pos c36] at H
      have c36b0 : (((rd_T40 l0 x12_1).f1) == a2) = true := beq_iff_eq.mpr c36
      have c36b1 : (((rd_T40 l0 x12_1).f1) != a2) = false := bne_eq_false_iff_eq.mpr c36
      clear c36
      have H' := aM H
      clear H
      have p186 : 0 ≤ (x12_1 : Int) := of_decide_eq_true (by first | (with_reducible assumption) | assumption)
      have q186 : x12_1 < (l0.length : Int) := of_decide_eq_true (by first | (with_reducible assumption) | assumption)
      obtain ⟨ad186, e186, hx186_0, hx186_1, hx186_2, hx186_3⟩ := at_T40 HR0.out x12_1 p186 q186
      cases e186
      replace hx186_0 := (HB.out.cell (World.block_lt_of_cell? w _ hx186_0)).trans hx186_0
      replace hx186_1 := (HB.out.cell (World.block_lt_of_cell? w _ hx186_1)).trans hx186_1
      replace hx186_2 := (HB.out.cell (World.block_lt_of_cell? w _ hx186_2)).trans hx186_2
      replace hx186_3 := (HB.out.cell (World.block_lt_of_cell? w _ hx186_3)).trans hx186_3
      replace p186 := eq_true p186
      replace q186 := eq_true q186
      have p187 : 0 ≤ (x12_1 : Int) := of_decide_eq_true (by first | (with_reducible assumption) | assumption)
      have q187 : x12_1 < (l0.length : Int) := of_decide_eq_true (by first | (with_reducible assumption) | assumption)
      obtain ⟨ad187, e187, hx187_0, hx187_1, hx187_2, hx187_3⟩ := at_T40 HR0.out x12_1 p187 q187
      obtain rfl : ad186 = ad187 := (by injection e187)
      replace hx187_0 := (HB.out.cell (World.block_lt_of_cell? w _ hx187_0)).trans hx187_0
      replace hx187_1 := (HB.out.cell (World.block_lt_of_cell? w _ hx187_1)).trans hx187_1
      replace hx187_2 := (HB.out.cell (World.block_lt_of_cell? w _ hx187_2)).trans hx187_2
      replace hx187_3 := (HB.out.cell (World.block_lt_of_cell? w _ hx187_3)).trans hx187_3
      replace p187 := eq_true p187
      replace q187 := eq_true q187
      go_wp2
      go_roundg kj9
      case measure => have := HK1.out; have := HJ9.out; omega
      case rel => exact ⟨(x10_1), (x11_1), (wrap64 (x12_1 + 1)), xE, xE, H', ⟨by have := HK1.out; have := HJ9.out; omega⟩, ⟨kr HO_10.out⟩, ⟨by (with_reducible repeat (first | refine blk_drewN ?_ _ | refine blk_drew ?_ | refine blk_alloc ?_ _)); exact BK167.out⟩, ⟨bl HB.out⟩⟩
     rw [if_neg c36] at H
     have c36b0 : (((rd_T40 l0 x12_1).f1) == a2) = false := beq_eq_false_iff_ne.mpr c36
     have c36b1 : (((rd_T40 l0 x12_1).f1) != a2) = true := bne_iff_ne.mpr c36
     by_cases c37 : x10_1.length < 4398046511104
     case neg =>
      rw [if_neg c37] at H
      exact absurd H (by simp)
     rw [if_pos c37] at H
     have LMc37 := aM c37
     clear c37
     obtain ⟨y189, hy189⟩ : ∃ y_ : List (S40), y_ = (x10_1 ++ [(⟨(rd_T40 l0 x12_1).f0, (rd_T40 l0 x12_1).f1, (rd_T40 l0 x12_1).f2, (rd_T40 l0 x12_1).f3⟩ : S40)]) := ⟨_, rfl⟩
     replace H : (spec_Hear.l0 kj9 l0 a1 a2 y189 x11_1 (wrap64 (x12_1 + 1)) a1 a2 a3 20) = some r := by first | (rw [hy189]; with_reducible exact H) | (have H2_ := (Option.bind_some _ _).symm.trans H; rw [hy189]; with_reducible exact H2_) | (have H2_ := (Option.bind_some _ _).symm.trans H; with_reducible exact H2_) | with_reducible exact H | (rw [hy189]; exact H) | exact H
     have Ny189 := aM hy189
     clear hy189
     have H' := aM H
     clear H
     have p186 : 0 ≤ (x12_1 : Int) := of_decide_eq_true (by first | (with_reducible assumption) | assumption)
     have q186 : x12_1 < (l0.length : Int) := of_decide_eq_true (by first | (with_reducible assumption) | assumption)
     obtain ⟨ad186, e186, hx186_0, hx186_1, hx186_2, hx186_3⟩ := at_T40 HR0.out x12_1 p186 q186
     cases e186
     replace hx186_0 := (HB.out.cell (World.block_lt_of_cell? w _ hx186_0)).trans hx186_0
     replace hx186_1 := (HB.out.cell (World.block_lt_of_cell? w _ hx186_1)).trans hx186_1
     replace hx186_2 := (HB.out.cell (World.block_lt_of_cell? w _ hx186_2)).trans hx186_2
     replace hx186_3 := (HB.out.cell (World.block_lt_of_cell? w _ hx186_3)).trans hx186_3
     replace p186 := eq_true p186
     replace q186 := eq_true q186
     have p187 : 0 ≤ (x12_1 : Int) := of_decide_eq_true (by first | (with_reducible assumption) | assumption)
     have q187 : x12_1 < (l0.length : Int) := of_decide_eq_true (by first | (with_reducible assumption) | assumption)
     obtain ⟨ad187, e187, hx187_0, hx187_1, hx187_2, hx187_3⟩ := at_T40 HR0.out x12_1 p187 q187
     obtain rfl : ad186 = ad187 := (by injection e187)
     replace hx187_0 := (HB.out.cell (World.block_lt_of_cell? w _ hx187_0)).trans hx187_0
     replace hx187_1 := (HB.out.cell (World.block_lt_of_cell? w _ hx187_1)).trans hx187_1
     replace hx187_2 := (HB.out.cell (World.block_lt_of_cell? w _ hx187_2)).trans hx187_2
     replace hx187_3 := (HB.out.cell (World.block_lt_of_cell? w _ hx187_3)).trans hx187_3
     replace p187 := eq_true p187
     replace q187 := eq_true q187
     have p188 : 0 ≤ (x12_1 : Int) := of_decide_eq_true (by first | (with_reducible assumption) | assumption)
     have q188 : x12_1 < (l0.length : Int) := of_decide_eq_true (by first | (with_reducible assumption) | assumption)
     obtain ⟨ad188, e188, hx188_0, hx188_1, hx188_2, hx188_3⟩ := at_T40 HR0.out x12_1 p188 q188
     obtain rfl : ad186 = ad188 := (by injection e188)
     replace hx188_0 := (HB.out.cell (World.block_lt_of_cell? w _ hx188_0)).trans hx188_0
     replace hx188_1 := (HB.out.cell (World.block_lt_of_cell? w _ hx188_1)).trans hx188_1
     replace hx188_2 := (HB.out.cell (World.block_lt_of_cell? w _ hx188_2)).trans hx188_2
     replace hx188_3 := (HB.out.cell (World.block_lt_of_cell? w _ hx188_3)).trans hx188_3
     replace p188 := eq_true p188
     replace q188 := eq_true q188
     go_wp2_with (first | ((with_reducible refine gate_builtin (b := .append) (xs := #[.tmp 55, .tmp 60]) rfl ?_); at_builtin; refine Kd.R_append k40 (w0 := w) w.heap.size rfl (.tmp 55) (.tmp 60) 24 40 (.agg #[(.int .i64 0), (.int .i64 0), (.int .i64 0), (.int .i64 0)]) 32 rfl Try.underlying24 info40 rfl (by decide) (by omega) u10 x10_1 (⟨(rd_T40 l0 x12_1).f0, (rd_T40 l0 x12_1).f1, (rd_T40 l0 x12_1).f2, (rd_T40 l0 x12_1).f3⟩ : S40) [.int .i64 ((rd_T40 l0 x12_1).f0), .int .i64 ((rd_T40 l0 x12_1).f1), .int .i64 ((rd_T40 l0 x12_1).f2), .int .i64 ((rd_T40 l0 x12_1).f3)] (fun k_ => k_ ≠ gb167) (fun _ => False) rfl rfl ?aP (fun _ hk => hk.elim) ?aF ?aO ?aB ?aS ?aL ?_; (case aP => exact k40_mkM _ _ _ (⟨(rd_T40 l0 x12_1).f0, (rd_T40 l0 x12_1).f1, (rd_T40 l0 x12_1).f2, (rd_T40 l0 x12_1).f3⟩ : S40)); (case aB => exact (bl HB.out)); (case aF => exact (fun k_ hk => Kd.freshB (g := gb167) (o := .cells #[.int .i64 a1, .int .i64 a2, .int .i64 a3, .int .i64 20] 40 (0, 0)) (bk BK167.out) k_ hk)); (case aO => exact (kr HO_10.out)); (case aS => exact (below_size (bl HB.out))); (case aL => have := LMc37.out; omega); intro v190 w38 ho hb hg hat; rw [← Ny189.out] at ho; have n0_ := aM (blk_grown (g := gb167) (o := .cells #[.int .i64 a1, .int .i64 a2, .int .i64 a3, .int .i64 20] 40 (0, 0)) (bk BK167.out) hg (Kd.R_away HO_10.out (fun _ hk => hk))); have n1_ := aM (hb); have n2_ := aM (ho); clear BK167 HB HO_10; have BK167 := n0_; have HB := n1_; have HO191 := n2_; clear n0_ n1_ n2_; clear ho hb hg hat))
     go_roundg kj9
     case measure => have := HK1.out; have := HJ9.out; omega
     case rel => exact ⟨(y189), (x11_1), (wrap64 (x12_1 + 1)), xE, xE, H', ⟨by have := HK1.out; have := HJ9.out; omega⟩, ⟨kr HO191.out⟩, ⟨by (with_reducible repeat (first | refine blk_drewN ?_ _ | refine blk_drew ?_ | refine blk_alloc ?_ _)); exact BK167.out⟩, ⟨bl HB.out⟩⟩

def spec_l1PickInt.f (s0_0 : List Int) (s0_1 : Int) (s0_2 : Int) (l1 : List Int) : Option (Int × Int × Int) := (spec_l1Below.f s0_0 s0_1 s0_2 (l1.length : Int)).bind fun bt213 => (if 0 ≤ bt213.1 then (if bt213.1 < (l1.length : Int) then (some (rd l1 bt213.1, bt213.2.1, bt213.2.2)) else (none)) else (none))
set_option maxHeartbeats 60000000 in
set_option maxRecDepth 100000 in
theorem spec_l1PickInt.calls (g : Nat) (s0_0 : List Int) (s0_1 : Int) (s0_2 : Int) (A1 : Option Addr) (c1 : Nat) (l1 : List Int) (r1 : Int) (r2 : Int) (r3 : Int) (w0 w : World) (hI : IsS152 w0 w g s0_0 s0_1 s0_2) (hB : Below w0.heap.size w0 w) (hr1 : Kd.C (Kd.int .i64) w A1 l1.length l1) (hc1 : l1.length ≤ c1) (hf1 : ∀ ad, A1 = some ad → 0 < l1.length → ad.block ≠ g) (h : spec_l1PickInt.f s0_0 s0_1 s0_2 l1 = some (r1, r2, r3)) :
  Calls Try.prog 88 #[.pointer (some ⟨g, 0, none⟩), .slice A1 l1.length c1] w fun e w' => e = .returned (.int .i64 r1) ∧ IsS152 w0 w' g s0_0 r2 r3 ∧ Below w0.heap.size w0 w' ∧ KeepBut w w' g none := by
 have HR1 := aM hr1
 have HC1 := aM hc1
 clear hr1 hc1
 have HI0 := aM hI
 have HK := aM (KeepBut.refl w g none)
 have HL := aM hB.size
 clear hI
 have HW0 := aM hB.size
 have HB := aM hB
 clear hB
 have H : ((spec_l1Below.f s0_0 s0_1 s0_2 (l1.length : Int)).bind fun bt213 => (if 0 ≤ bt213.1 then (if bt213.1 < (l1.length : Int) then (some (rd l1 bt213.1, bt213.2.1, bt213.2.2)) else (none)) else (none))) = some (r1, r2, r3) := h
 clear h
 replace H := Option.bind_eq_some_iff.mp H
 obtain ⟨⟨t213, t214, t215⟩, A30, H⟩ := H
 replace H : (if 0 ≤ t213 then (if t213 < (l1.length : Int) then (some (rd l1 t213, t214, t215)) else (none)) else (none)) = some (r1, r2, r3) := H
 have A3 := aM A30
 clear A30
 by_cases c4 : 0 ≤ t213
 case neg =>
  rw [if_neg c4] at H
  exact absurd H (by simp)
 rw [if_pos c4] at H
 have c4b0 : decide (0 ≤ t213) = true := decide_eq_true c4
 clear c4
 by_cases c5 : t213 < (l1.length : Int)
 case neg =>
  rw [if_neg c5] at H
  exact absurd H (by simp)
 rw [if_pos c5] at H
 have c5b0 : decide (t213 < (l1.length : Int)) = true := decide_eq_true c5
 clear c5
 simp only [Option.some.injEq, Prod.mk.injEq] at H
 obtain ⟨rfl, rfl, rfl⟩ := H
 go_enter Try.func88, Try.ntmps88
 go_wp2_with (first | ((with_reducible refine gate_callee (f := 74) rfl ?_); refine goesL_ (some 9) rfl rfl Try.func74 (by kernel_rfl) rfl #[.pointer (some ⟨g, 0, none⟩), .int .i64 (l1.length : Int)] rfl xR ?_; (with_reducible refine (spec_l1Below.calls g s0_0 s0_1 s0_2 (l1.length : Int) t213 t214 t215 w0 _ ?side1 ?side2 A3.out).mono ?_); (case side1 => repeat (first | (with_reducible first | exact HI0.out | apply IsS152.alloc | apply IsS152.drewN | apply IsS152.drew | apply IsS152.set_1 | apply IsS152.set_2) | exact HI0.out)); (case side2 => repeat (first | (with_reducible first | exact HB.out | apply below_alloc | apply pw_below_drewN | apply below_drew1 | refine below_set ?_ (IsS152.ge HI0.out)) | exact HB.out)); rintro e w6 ⟨rfl, hi, hb, hk⟩; refine ⟨_, rfl, ?_⟩; have n0_ := aM (KeepBut.trans (by repeat (first | (with_reducible first | exact HK.out | apply KeepBut.set_ | apply keep_drewN | apply keep_drew | apply keep_alloc) | exact HK.out)) hk (.inl rfl)); have n1_ := aM (hb); have n2_ := aM (hi); clear HK HB HI0; have HK := n0_; have HB := n1_; have HI0 := n2_; clear n0_ n1_ n2_; (try clear hb); (try clear hk); (try clear hi); have p216 : 0 ≤ (t213 : Int) := of_decide_eq_true (by first | (with_reducible assumption) | assumption); have q216 : t213 < (l1.length : Int) := of_decide_eq_true (by first | (with_reducible assumption) | assumption); obtain ⟨ad216, e216, hx216_0⟩ := Kd.at_int HR1.out t213 p216 q216; cases e216; replace hx216_0 := keep_cell HK.out hx216_0 (by first | (rw [add_block]; exact hf1 _ rfl (by omega)) | exact hf1 _ rfl (by omega) | exact hf1 ad216 rfl (by omega)); replace p216 := eq_true p216; replace q216 := eq_true q216))
 go_ret
 exact ⟨xW, by repeat (first | (with_reducible first | exact HI0.out | apply IsS152.alloc | apply IsS152.drewN | apply IsS152.drew | apply IsS152.set_1 | apply IsS152.set_2) | exact HI0.out), by repeat (first | (with_reducible first | exact HB.out | apply below_alloc | apply pw_below_drewN | apply below_drew1 | refine below_set ?_ (IsS152.ge HI0.out)) | exact HB.out), by repeat (first | (with_reducible first | exact HK.out | apply KeepBut.set_ | apply keep_drewN | apply keep_drew | apply keep_alloc) | exact HK.out)⟩

end Go.Proofs.Ytjaldondohddpaa.PFnFlushed
