/- Of the proof of laws.FnFlushed: a part. No condition beyond what its theorems say. -/
import Derived.Test.YtjaldondohddpaaVFnFlushedPx0
import Derived.Test.YtjaldondohddpaaVFnFlushedPx10
namespace Go.Proofs.Ytjaldondohddpaa.PFnFlushed
open Go.RowKit Go.Proofs.YtjaldondohddpaaW.PrintWords Go.Proofs.YtjaldondohddpaaW.PrintLast Go.Proofs.YtjaldondohddpaaW.PrintMore
attribute [local go_sem] max2_int min2_int max_two min_two max_three min_three max_four min_four   -- for this text's walks alone
set_option linter.unusedVariables false
set_option linter.unusedSimpArgs false

def impl_copyCard.l0 : Nat → List (S129) → Int → Int → List Bool → List (S129) → List (S40) → Option (List Bool × (List (S129)) × (List (S40)))
 | 0, _, _, _, _, _, _ => none
 | k + 1, x14, x15, x16, x431000, x431001, x431002 => if x16 < x15 then (if 0 ≤ x16 then (if x16 < (x14.length : Int) then ((slices_Clone_int_int.f ((rd_T129 x14 x16).f1)).bind fun t433 => (if x431001.length < 4398046511104 then (impl_copyCard.l0 k x14 x15 (wrap64 (x16 + 1)) x431000 (x431001 ++ [(⟨(rd_T129 x14 x16).f0, t433⟩ : S129)]) x431002) else (none))) else (none)) else (none)) else (some (x431000, x431001, x431002))
def impl_copyCard.f (k : Nat) (l0_0 : List Bool) (l0_1 : List (S129)) (l0_2 : List (S40)) : Option (List Bool × (List (S129)) × (List (S40))) := (slices_Clone_bool_bool.f l0_0).bind fun t424 => ((impl_Heard.f l0_2).bind fun t427 => (impl_copyCard.l0 k l0_1 (l0_1.length : Int) 0 t424 ([] : List (S129)) t427))
theorem impl_copyCard.mono_l : ∀ k, (∀ y0 y1 y2 y3 y4 y5, LeO (impl_copyCard.l0 k y0 y1 y2 y3 y4 y5) (impl_copyCard.l0 (k + 1) y0 y1 y2 y3 y4 y5))
 | 0 => fun _ _ _ _ _ _ r h => by simp [impl_copyCard.l0] at h
 | k + 1 => by
  have ih0 := impl_copyCard.mono_l k
  ·intro y0 y1 y2 y3 y4 y5
   unfold impl_copyCard.l0
   repeat' first
   | (with_reducible exact ih0 _ _ _ _ _ _)
   | (with_reducible exact LeO.refl _)
   | (with_reducible exact LeO.none _)
   | (with_reducible refine LeO.ite ?_ ?_)
   | (with_reducible refine LeO.bind ?_ (fun _ => ?_))
   | exact ih0 _ _ _ _ _ _
   | exact LeO.none _
   | refine LeO.ite ?_ ?_
   | refine LeO.bind ?_ (fun _ => ?_)
theorem impl_copyCard.mono : ∀ a0 a1 a2 k, LeO (impl_copyCard.f k a0 a1 a2) (impl_copyCard.f (k + 1) a0 a1 a2) := by
 intro a0 a1 a2 k
 have ih0 := impl_copyCard.mono_l k
 unfold impl_copyCard.f
 repeat' first
   | (with_reducible exact ih0 _ _ _ _ _ _)
   | (with_reducible exact LeO.refl _)
   | (with_reducible exact LeO.none _)
   | (with_reducible refine LeO.ite ?_ ?_)
   | (with_reducible refine LeO.bind ?_ (fun _ => ?_))
   | exact ih0 _ _ _ _ _ _
   | exact LeO.none _
   | refine LeO.ite ?_ ?_
   | refine LeO.bind ?_ (fun _ => ?_)
def impl_copyCard.T1 : Bool × List (List Nat × List Nat) := (true, [([], []), ([0], [0]), ([1], [1]), ([], []), ([3], [3]), ([4, 2], [4]), ([2, 5], [2, 5]), ([], []), ([7, 6, 5, 0, 1, 2, 3, 4, 5, 6, 7], [6, 7])])
def impl_copyCard.B1 : List Nat := [0, 1, 3, 0, 8, 31, 63, 0, 255]
theorem impl_copyCard.tab1 : rtab .any (opsOf Try.f113 1) = impl_copyCard.T1 := by kernel_rfl
theorem impl_copyCard.bits1 : waitsOk impl_copyCard.T1.2 impl_copyCard.B1 = true := by kernel_rfl
def impl_copyCard.T5 : Bool × List (List Nat × List Nat) := (true, [([], []), ([0], [0]), ([], []), ([2], [2]), ([], []), ([4], [4]), ([5], [5]), ([3, 6], [3, 6]), ([7], [7]), ([1, 8, 6], [1, 8]), ([0, 1, 2, 3, 4, 5, 6, 7, 8, 9], []), ([10, 9, 9, 0, 1, 2, 3, 4, 5, 6, 7, 8, 9], [9, 10])])
def impl_copyCard.B5 : List Nat := [0, 1, 0, 4, 0, 16, 48, 124, 252, 511, 1023, 2047]
theorem impl_copyCard.tab5 : rtab .any (opsOf Try.f113 5) = impl_copyCard.T5 := by kernel_rfl
theorem impl_copyCard.bits5 : waitsOk impl_copyCard.T5.2 impl_copyCard.B5 = true := by kernel_rfl
set_option maxHeartbeats 60000000 in
set_option maxRecDepth 100000 in
theorem impl_copyCard.calls (k : Nat) (A0_0 : Option Addr) (c0_0 : Nat) (l0_0 : List Bool) (A0_1 : Option Addr) (c0_1 : Nat) (l0_1 : List (S129)) (A0_2 : Option Addr) (c0_2 : Nat) (l0_2 : List (S40)) (r1 : List Bool) (r2 : List (S129)) (r3 : List (S40)) (w : World) (hr0_0 : Kd.C Kd.bool w A0_0 l0_0.length l0_0) (hc0_0 : l0_0.length ≤ c0_0) (hr0_1 : Kd.C k129 w A0_1 l0_1.length l0_1) (hc0_1 : l0_1.length ≤ c0_1) (hr0_2 : Kd.C k40 w A0_2 l0_2.length l0_2) (hc0_2 : l0_2.length ≤ c0_2) (h : impl_copyCard.f k l0_0 l0_1 l0_2 = some (r1, r2, r3)) :
  Calls Try.prog 113 #[.agg #[.slice A0_0 l0_0.length c0_0, .slice A0_1 l0_1.length c0_1, .slice A0_2 l0_2.length c0_2]] w fun e w' => ∃ v0_ v1_ v2_ : Value, e = .returned (.agg #[v0_, v1_, v2_]) ∧ Kd.R Kd.bool 4 w' w.heap.size (fun _ => True) v0_ r1 ∧ Kd.S k129 129 w' w.heap.size (fun _ => True) v1_ r2 ∧ Kd.R k40 40 w' w.heap.size (fun _ => True) v2_ r3 ∧ Below w.heap.size w w' := by
 have hu73 := Try.underlying73
 have hu129 := Try.underlying129
 have HR0_0 := aM hr0_0
 have HC0_0 := aM hc0_0
 clear hr0_0 hc0_0
 have HR0_1 := aM hr0_1
 have HC0_1 := aM hc0_1
 clear hr0_1 hc0_1
 have HR0_2 := aM hr0_2
 have HC0_2 := aM hc0_2
 clear hr0_2 hc0_2
 have HB := aM (Below.refl w.heap.size w)
 have H : ((slices_Clone_bool_bool.f l0_0).bind fun t424 => ((impl_Heard.f l0_2).bind fun t427 => (impl_copyCard.l0 k l0_1 (l0_1.length : Int) 0 t424 ([] : List (S129)) t427))) = some (r1, r2, r3) := h
 clear h
 replace H := Option.bind_eq_some_iff.mp H
 obtain ⟨t424, A20, H⟩ := H
 replace H : ((impl_Heard.f l0_2).bind fun t427 => (impl_copyCard.l0 k l0_1 (l0_1.length : Int) 0 t424 ([] : List (S129)) t427)) = some (r1, r2, r3) := H
 have A2 := aM A20
 clear A20
 replace H := Option.bind_eq_some_iff.mp H
 obtain ⟨t427, A30, H⟩ := H
 replace H : (impl_copyCard.l0 k l0_1 (l0_1.length : Int) 0 t424 ([] : List (S129)) t427) = some (r1, r2, r3) := H
 have A3 := aM A30
 clear A30
 have H' := aM H
 clear H
 go_enter Try.func113, Try.ntmps113
 try go_wp2_with (first | ((with_reducible refine gate_dst (N := 1) rfl ?_); refine box_event ?hg (N := 1) ?hd (cs := #[.slice A0_0 l0_0.length c0_0, .slice A0_1 l0_1.length c0_1, .slice A0_2 l0_2.length c0_2]) (t := 73) ?hr ?_; (case hd => rfl); (case hg => rfl); (case hr => first | (go_simp; done) | (go_simp; rfl)); intro gb422 hg w4 hbox hb; have n0_ := aM (bS (bl HB.out) hb); have n1_ := aM (hbox); have n2_ := aM ((by rw [hg]; exact (below_size (bl HB.out)) : w.heap.size ≤ gb422)); have n3_ := aM ((by rw [hg]; exact (below_size (bl HB.out)) : w.heap.size ≤ gb422)); clear HB; have HB := n0_; have BK422 := n1_; have GW422 := n2_; have GE422 := n3_; clear n0_ n1_ n2_ n3_; clear hb hbox hg) | ((with_reducible refine gate_dst (N := 2) rfl ?_); refine box_event ?hg (N := 2) ?hd (cs := #[.slice none 0 0, .slice none 0 0, .slice none 0 0]) (t := 73) ?hr ?_; (case hd => rfl); (case hg => rfl); (case hr => first | (go_simp; done) | (go_simp; rfl)); intro gb423 hg w5 hbox hb; have n0_ := aM (bB (g := gb422) (o := .cells #[.slice A0_0 l0_0.length c0_0, .slice A0_1 l0_1.length c0_1, .slice A0_2 l0_2.length c0_2] 73 (0, 0)) (bk BK422.out) hb); have n1_ := aM (bS (bl HB.out) hb); have n2_ := aM (hbox); have n3_ := aM ((by rw [hg]; exact (below_size (bl HB.out)) : w.heap.size ≤ gb423)); have n4_ := aM ((by rw [hg]; exact (below_size (bl HB.out)) : w.heap.size ≤ gb423)); have n5_ := aM ((by rw [hg]; exact Nat.ne_of_lt (blk_lt (g := gb422) (o := .cells #[.slice A0_0 l0_0.length c0_0, .slice A0_1 l0_1.length c0_1, .slice A0_2 l0_2.length c0_2] 73 (0, 0)) (bk BK422.out)) : gb422 ≠ gb423)); have n6_ := aM ((by rw [hg]; exact Nat.ne_of_gt (blk_lt (g := gb422) (o := .cells #[.slice A0_0 l0_0.length c0_0, .slice A0_1 l0_1.length c0_1, .slice A0_2 l0_2.length c0_2] 73 (0, 0)) (bk BK422.out)) : gb423 ≠ gb422)); clear BK422 HB; have BK422 := n0_; have HB := n1_; have BK423 := n2_; have GW423 := n3_; have GE423 := n4_; have NB422_423 := n5_; have NB423_422 := n6_; clear n0_ n1_ n2_ n3_ n4_ n5_ n6_; clear hb hbox hg))
 have n0_ := aM (blk_drew BK422.out)
 have n1_ := aM (blk_drew BK423.out)
 have n2_ := aM (below_drew1 HB.out)
 clear BK422 BK423 HB
 have BK422 := n0_
 have BK423 := n1_
 have HB := n2_
 clear n0_ n1_ n2_
 refine start_ (n := 9) (S := fun w' => w'.cell? ⟨gb422, 0, none⟩ = some (.slice A0_0 l0_0.length c0_0) ∧ w'.cell? ⟨gb422, 1, none⟩ = some (.slice A0_1 l0_1.length c0_1) ∧ w'.cell? ⟨gb422, 2, none⟩ = some (.slice A0_2 l0_2.length c0_2)) (ds := []) #[U,U,U,U,U,U,U,U,U] (by kernel_rfl) rfl rfl ⟨cI BK422.out 0, cI BK422.out 1, cI BK422.out 2⟩ (fun hHeld => ?_); refine with_tabW impl_copyCard.tab1 impl_copyCard.bits1 (fun HT_ HW_ => ?_)
 generalize w5.drew = w6 at BK422 BK423 HB hHeld ⊢
 refine pure_ (i := 0) (N := some 6) (v := ?_) (a' := ?_) #[Y,U,U,U,U,U,U,U,U] rfl rfl (any_of HT_.out (by kernel_rfl)) (fun _ _ _ h => h) (Or.inl ⟨by rfl, ?_⟩) ?_ ?_
 rotate_left
 ·intro w'
  go_simp
  with_reducible rfl
 rotate_left
 ·simp only [Act.put, sA, sZ, sS, i64_w, i32_w]
  rfl
 refine pure_ (i := 3) (N := some 9) (v := ?_) (a' := ?_) #[Y,U,U,Y,U,U,U,U,U] rfl rfl (any_of HT_.out (by kernel_rfl)) (fun _ _ _ h => h) (Or.inl ⟨by rfl, ?_⟩) ?_ ?_
 rotate_left
 ·intro w'
  go_simp
  with_reducible rfl
 rotate_left
 ·simp only [Act.put, sA, sZ, sS, i64_w, i32_w]
  rfl
 refine take_ (i := 1) (N := some 7) (v := ?_) (a' := ?_) #[Y,Y,U,Y,U,U,U,U,U] rfl rfl (take_ofW HT_.out HW_.out (by kernel_rfl)) (fun _ _ _ h => h) (Or.inl ⟨by rfl, ?_⟩) hHeld ?_ ?_
 rotate_left
 ·rintro w' ⟨s0, s1, s2⟩
  go_simp
  with_reducible rfl
 rotate_left
 ·simp only [Act.put, sA, sZ, sS, i64_w, i32_w]
  rfl
 refine take_ (i := 4) (N := some 10) (v := ?_) (a' := ?_) #[Y,Y,U,Y,Y,U,U,U,U] rfl rfl (take_ofW HT_.out HW_.out (by kernel_rfl)) (fun _ _ _ h => h) (Or.inl ⟨by rfl, ?_⟩) hHeld ?_ ?_
 rotate_left
 ·rintro w' ⟨s0, s1, s2⟩
  go_simp
  with_reducible rfl
 rotate_left
 ·simp only [Act.put, sA, sZ, sS, i64_w, i32_w]
  rfl
 refine join_ (σ := Value × Value × Nat) 1 #[Y,Y,Y,Y,Y,Y,Y,Y,U] (fun s_ => [(8, s_.1), (11, s_.2.1), (3, .pointer (some ⟨s_.2.2, 0, none⟩)), (12, .agg #[s_.1, .slice none 0 0, s_.2.1])]) (fun s_ w' => (w'.cell? ⟨gb422, 0, none⟩ = some (.slice A0_0 l0_0.length c0_0) ∧ w'.cell? ⟨gb422, 1, none⟩ = some (.slice A0_1 l0_1.length c0_1) ∧ w'.cell? ⟨gb422, 2, none⟩ = some (.slice A0_2 l0_2.length c0_2)) ∧ (Kd.R Kd.bool 4 w' w.heap.size (fun _ => True) s_.1 t424) ∧ (Kd.R k40 40 w' w.heap.size (fun _ => True) s_.2.1 t427) ∧ (w'.heap[gb422]? = some (.cells #[.slice A0_0 l0_0.length c0_0, .slice A0_1 l0_1.length c0_1, .slice A0_2 l0_2.length c0_2] 73 (0, 0))) ∧ (w'.heap[gb423]? = some (.cells #[.slice none 0 0, .slice none 0 0, .slice none 0 0] 73 (0, 0))) ∧ (w'.heap[s_.2.2]? = some (.cells #[.slice none 0 0, .slice none 0 0, .slice none 0 0] 73 (0, 0))) ∧ (w.heap.size ≤ s_.2.2) ∧ (w.heap.size ≤ s_.2.2) ∧ (gb422 ≠ s_.2.2) ∧ (s_.2.2 ≠ gb422) ∧ (gb423 ≠ s_.2.2) ∧ (s_.2.2 ≠ gb423) ∧ (Below w.heap.size w w')) ?_ ?_
 rotate_left
 ·intro hCont
  refine two_ (i := 2) (j := 7) (Ni := some 8) (Nj := some 3) #[Y,Y,Y,Y,Y,U,U,U,U] #[Y,Y,U,Y,Y,U,U,Y,U] rfl rfl rfl rfl (two_of HT_.out (by kernel_rfl)) (by decide) (by decide) (fun K hK => ?_) (fun K hK => ?_)
  ·skip
   refine goes_ Try.func156 (by kernel_rfl) rfl #[.slice A0_0 l0_0.length c0_0] (by rfl) rfl rfl xR ?_
   with_reducible refine (slices_Clone_bool_bool.calls _ _ l0_0 t424 _ ?side1 ?side2 A2.out).mono ?_
   (case side1 => repeat (first | exact (cB HR0_0.out HB.out) | (with_reducible refine Kd.C_alloc ?_ _) | (with_reducible refine Kd.C_drewN ?_ _) | (with_reducible refine Kd.C_drew ?_)))
   (case side2 => exact HC0_0.out)
   rintro e w7 ⟨v425, rfl, ho0, hb⟩
   refine ⟨_, rfl, ?_⟩
   have n0_ := aM (Kd.R_lower ho0 (below_size (bl HB.out)))
   have n1_ := aM (bB (g := gb422) (o := .cells #[.slice A0_0 l0_0.length c0_0, .slice A0_1 l0_1.length c0_1, .slice A0_2 l0_2.length c0_2] 73 (0, 0)) (bk BK422.out) hb)
   have n2_ := aM (bB (g := gb423) (o := .cells #[.slice none 0 0, .slice none 0 0, .slice none 0 0] 73 (0, 0)) (bk BK423.out) hb)
   have n3_ := aM (bS (bl HB.out) hb)
   clear BK422 BK423 HB
   have HO426 := n0_
   have BK422 := n1_
   have BK423 := n2_
   have HB := n3_
   clear n0_ n1_ n2_ n3_
   (try clear hb)
   (try clear hb2)
   (try clear hk)
   (try clear hi)
   (try clear ho0)
   refine hK.out _ _ ⟨cI BK422.out 0, cI BK422.out 1, cI BK422.out 2⟩ (fun hHeld => ?_)
   clear hK K
   refine norm_ (a' := ?_) ?_ ?_
   rotate_left
   ·show Act.put _ (some 8) _ = _
    simp only [Act.put, sA, sZ, sS, i64_w, i32_w]
    rfl
   refine two_ (i := 5) (j := 7) (Ni := some 11) (Nj := some 3) #[Y,Y,Y,Y,Y,Y,U,U,U] #[Y,Y,Y,Y,Y,U,U,Y,U] rfl rfl rfl rfl (two_of HT_.out (by kernel_rfl)) (by decide) (by decide) (fun K hK => ?_) (fun K hK => ?_)
   ·skip
    refine goes_ Try.func75 (by kernel_rfl) rfl #[.slice A0_2 l0_2.length c0_2] (by rfl) rfl rfl xR ?_
    with_reducible refine (impl_Heard.calls _ _ l0_2 t427 _ ?side1 ?side2 A3.out).mono ?_
    (case side1 => repeat (first | exact (cB HR0_2.out HB.out) | (with_reducible refine Kd.C_alloc ?_ _) | (with_reducible refine Kd.C_drewN ?_ _) | (with_reducible refine Kd.C_drew ?_)))
    (case side2 => exact HC0_2.out)
    rintro e w8 ⟨v428, rfl, ho0, hb⟩
    refine ⟨_, rfl, ?_⟩
    have n0_ := aM (kB (kr HO426.out) hb)
    have n1_ := aM (Kd.R_lower ho0 (below_size (bl HB.out)))
    have n2_ := aM (bB (g := gb422) (o := .cells #[.slice A0_0 l0_0.length c0_0, .slice A0_1 l0_1.length c0_1, .slice A0_2 l0_2.length c0_2] 73 (0, 0)) (bk BK422.out) hb)
    have n3_ := aM (bB (g := gb423) (o := .cells #[.slice none 0 0, .slice none 0 0, .slice none 0 0] 73 (0, 0)) (bk BK423.out) hb)
    have n4_ := aM (bS (bl HB.out) hb)
    clear HO426 BK422
    clear BK423 HB
    have HO426 := n0_
    have HO429 := n1_
    have BK422 := n2_
    have BK423 := n3_
    have HB := n4_
    clear n0_ n1_ n2_ n3_ n4_
    (try clear hb)
    (try clear hb2)
    (try clear hk)
    (try clear hi)
    (try clear ho0)
    obtain ⟨Ao9, co9, eo9⟩ := Kd.R_slice HO429.out
    (first | subst eo9 | (injection eo9 with f1_ f2_ f3_; have f4_ := f1_.symm; have f5_ := f3_.symm; clear f1_ f2_ f3_; subst f4_; subst f5_))
    obtain ⟨Ao10, co10, eo10⟩ := Kd.R_slice HO426.out
    (first | subst eo10 | (injection eo10 with f1_ f2_ f3_; have f4_ := f1_.symm; have f5_ := f3_.symm; clear f1_ f2_ f3_; subst f4_; subst f5_))
    refine hK.out _ _ ⟨cI BK422.out 0, cI BK422.out 1, cI BK422.out 2⟩ (fun hHeld => ?_)
    clear hK K
    refine norm_ (a' := ?_) ?_ ?_
    rotate_left
    ·show Act.put _ (some 11) _ = _
     simp only [Act.put, sA, sZ, sS, i64_w, i32_w]
     rfl
    refine pure_ (i := 6) (N := some 12) (v := ?_) (a' := ?_) #[Y,Y,Y,Y,Y,Y,Y,U,U] rfl rfl (any_of HT_.out (by kernel_rfl)) (fun _ _ _ h => h) (Or.inl ⟨by rfl, ?_⟩) ?_ ?_
    rotate_left
    ·intro w'
     go_simp
     with_reducible rfl
    rotate_left
    ·simp only [Act.put, sA, sZ, sS, i64_w, i32_w]
     rfl
    refine one_ (i := 7) (N := some 3) #[Y,Y,Y,Y,Y,Y,Y,Y,U] rfl rfl (one_of HT_.out (by kernel_rfl)) (by decide) (fun K hK => ?_)
    refine box_step ?hg (N := 3) ?hd (cs := #[.slice none 0 0, .slice none 0 0, .slice none 0 0]) (t := 73) ?hr ?_; (case hd => rfl); (case hg => rfl); (case hr => first | (go_simp; done) | (go_simp; rfl))
    intro gb430 hg w11 hbox hb
    have n0_ := aM (kB (kr HO426.out) hb)
    have n1_ := aM (kB (kr HO429.out) hb)
    have n2_ := aM (bB (g := gb422) (o := .cells #[.slice A0_0 l0_0.length c0_0, .slice A0_1 l0_1.length c0_1, .slice A0_2 l0_2.length c0_2] 73 (0, 0)) (bk BK422.out) hb)
    have n3_ := aM (bB (g := gb423) (o := .cells #[.slice none 0 0, .slice none 0 0, .slice none 0 0] 73 (0, 0)) (bk BK423.out) hb)
    have n4_ := aM (bS (bl HB.out) hb)
    have n5_ := aM (hbox)
    have n6_ := aM ((by rw [hg]; exact (below_size (bl HB.out)) : w.heap.size ≤ gb430))
    have n7_ := aM ((by rw [hg]; exact (below_size (bl HB.out)) : w.heap.size ≤ gb430))
    have n8_ := aM ((by rw [hg]; exact Nat.ne_of_lt (blk_lt (g := gb422) (o := .cells #[.slice A0_0 l0_0.length c0_0, .slice A0_1 l0_1.length c0_1, .slice A0_2 l0_2.length c0_2] 73 (0, 0)) (bk BK422.out)) : gb422 ≠ gb430))
    have n9_ := aM ((by rw [hg]; exact Nat.ne_of_gt (blk_lt (g := gb422) (o := .cells #[.slice A0_0 l0_0.length c0_0, .slice A0_1 l0_1.length c0_1, .slice A0_2 l0_2.length c0_2] 73 (0, 0)) (bk BK422.out)) : gb430 ≠ gb422))
    have n10_ := aM ((by rw [hg]; exact Nat.ne_of_lt (blk_lt (g := gb423) (o := .cells #[.slice none 0 0, .slice none 0 0, .slice none 0 0] 73 (0, 0)) (bk BK423.out)) : gb423 ≠ gb430))
    have n11_ := aM ((by rw [hg]; exact Nat.ne_of_gt (blk_lt (g := gb423) (o := .cells #[.slice none 0 0, .slice none 0 0, .slice none 0 0] 73 (0, 0)) (bk BK423.out)) : gb430 ≠ gb423))
    clear HO426 HO429
    clear BK422 BK423 HB
    have HO426 := n0_
    have HO429 := n1_
    have BK422 := n2_
    have BK423 := n3_
    have HB := n4_
    have BK430 := n5_
    have GW430 := n6_
    have GE430 := n7_
    have NB422_430 := n8_
    have NB430_422 := n9_
    have NB423_430 := n10_
    have NB430_423 := n11_
    clear n0_ n1_ n2_ n3_ n4_ n5_ n6_ n7_ n8_ n9_ n10_ n11_
    clear hb hbox hg
    refine hK.out _ _ ⟨cI BK422.out 0, cI BK422.out 1, cI BK422.out 2⟩ (fun hHeld => ?_)
    clear hK K
    refine norm_ (a' := ?_) ?_ ?_
    rotate_left
    ·show Act.put _ (some 3) _ = _
     simp only [Act.put, sA, sZ, sS, i64_w, i32_w]
     rfl
    exact norm_ (by simp only [putAll, Act.put, sA, sZ, sS]) (hCont (.slice Ao10 t424.length co10, .slice Ao9 t427.length co9, gb430) _ ⟨hHeld, (kr HO426.out), (kr HO429.out), (bk BK422.out), (bk BK423.out), (bk BK430.out), GW430.out, GE430.out, NB422_430.out, NB430_422.out, NB423_430.out, NB430_423.out, (bl HB.out)⟩)
   ·skip
    refine box_step ?hg (N := 3) ?hd (cs := #[.slice none 0 0, .slice none 0 0, .slice none 0 0]) (t := 73) ?hr ?_; (case hd => rfl); (case hg => rfl); (case hr => first | (go_simp; done) | (go_simp; rfl))
    intro gb430 hg w8 hbox hb
    have n0_ := aM (kB (kr HO426.out) hb)
    have n1_ := aM (bB (g := gb422) (o := .cells #[.slice A0_0 l0_0.length c0_0, .slice A0_1 l0_1.length c0_1, .slice A0_2 l0_2.length c0_2] 73 (0, 0)) (bk BK422.out) hb)
    have n2_ := aM (bB (g := gb423) (o := .cells #[.slice none 0 0, .slice none 0 0, .slice none 0 0] 73 (0, 0)) (bk BK423.out) hb)
    have n3_ := aM (bS (bl HB.out) hb)
    have n4_ := aM (hbox)
    have n5_ := aM ((by rw [hg]; exact (below_size (bl HB.out)) : w.heap.size ≤ gb430))
    have n6_ := aM ((by rw [hg]; exact (below_size (bl HB.out)) : w.heap.size ≤ gb430))
    have n7_ := aM ((by rw [hg]; exact Nat.ne_of_lt (blk_lt (g := gb422) (o := .cells #[.slice A0_0 l0_0.length c0_0, .slice A0_1 l0_1.length c0_1, .slice A0_2 l0_2.length c0_2] 73 (0, 0)) (bk BK422.out)) : gb422 ≠ gb430))
    have n8_ := aM ((by rw [hg]; exact Nat.ne_of_gt (blk_lt (g := gb422) (o := .cells #[.slice A0_0 l0_0.length c0_0, .slice A0_1 l0_1.length c0_1, .slice A0_2 l0_2.length c0_2] 73 (0, 0)) (bk BK422.out)) : gb430 ≠ gb422))
    have n9_ := aM ((by rw [hg]; exact Nat.ne_of_lt (blk_lt (g := gb423) (o := .cells #[.slice none 0 0, .slice none 0 0, .slice none 0 0] 73 (0, 0)) (bk BK423.out)) : gb423 ≠ gb430))
    have n10_ := aM ((by rw [hg]; exact Nat.ne_of_gt (blk_lt (g := gb423) (o := .cells #[.slice none 0 0, .slice none 0 0, .slice none 0 0] 73 (0, 0)) (bk BK423.out)) : gb430 ≠ gb423))
    clear HO426 BK422
    clear BK423 HB
    have HO426 := n0_
    have BK422 := n1_
    have BK423 := n2_
    have HB := n3_
    have BK430 := n4_
    have GW430 := n5_
    have GE430 := n6_
    have NB422_430 := n7_
    have NB430_422 := n8_
    have NB423_430 := n9_
    have NB430_423 := n10_
    clear n0_ n1_ n2_ n3_ n4_ n5_ n6_ n7_ n8_ n9_ n10_
    clear hb hbox hg
    refine hK.out _ _ ⟨cI BK422.out 0, cI BK422.out 1, cI BK422.out 2⟩ (fun hHeld => ?_)
    clear hK K
    refine norm_ (a' := ?_) ?_ ?_
    rotate_left
    ·show Act.put _ (some 3) _ = _
     simp only [Act.put, sA, sZ, sS, i64_w, i32_w]
     rfl
    refine one_ (i := 5) (N := some 11) #[Y,Y,Y,Y,Y,Y,U,Y,U] rfl rfl (one_of HT_.out (by kernel_rfl)) (by decide) (fun K hK => ?_)
    refine goes_ Try.func75 (by kernel_rfl) rfl #[.slice A0_2 l0_2.length c0_2] (by rfl) rfl rfl xR ?_
    with_reducible refine (impl_Heard.calls _ _ l0_2 t427 _ ?side1 ?side2 A3.out).mono ?_
    (case side1 => repeat (first | exact (cB HR0_2.out HB.out) | (with_reducible refine Kd.C_alloc ?_ _) | (with_reducible refine Kd.C_drewN ?_ _) | (with_reducible refine Kd.C_drew ?_)))
    (case side2 => exact HC0_2.out)
    rintro e w9 ⟨v428, rfl, ho0, hb⟩
    refine ⟨_, rfl, ?_⟩
    have n0_ := aM (kB (kr HO426.out) hb)
    have n1_ := aM (Kd.R_lower ho0 (below_size (bl HB.out)))
    have n2_ := aM (bB (g := gb422) (o := .cells #[.slice A0_0 l0_0.length c0_0, .slice A0_1 l0_1.length c0_1, .slice A0_2 l0_2.length c0_2] 73 (0, 0)) (bk BK422.out) hb)
    have n3_ := aM (bB (g := gb423) (o := .cells #[.slice none 0 0, .slice none 0 0, .slice none 0 0] 73 (0, 0)) (bk BK423.out) hb)
    have n4_ := aM (bB (g := gb430) (o := .cells #[.slice none 0 0, .slice none 0 0, .slice none 0 0] 73 (0, 0)) (bk BK430.out) hb)
    have n5_ := aM (bS (bl HB.out) hb)
    clear HO426 BK422
    clear BK423 BK430 HB
    have HO426 := n0_
    have HO429 := n1_
    have BK422 := n2_
    have BK423 := n3_
    have BK430 := n4_
    have HB := n5_
    clear n0_ n1_ n2_ n3_ n4_ n5_
    (try clear hb)
    (try clear hb2)
    (try clear hk)
    (try clear hi)
    (try clear ho0)
    obtain ⟨Ao10, co10, eo10⟩ := Kd.R_slice HO429.out
    (first | subst eo10 | (injection eo10 with f1_ f2_ f3_; have f4_ := f1_.symm; have f5_ := f3_.symm; clear f1_ f2_ f3_; subst f4_; subst f5_))
    obtain ⟨Ao11, co11, eo11⟩ := Kd.R_slice HO426.out
    (first | subst eo11 | (injection eo11 with f1_ f2_ f3_; have f4_ := f1_.symm; have f5_ := f3_.symm; clear f1_ f2_ f3_; subst f4_; subst f5_))
    refine hK.out _ _ ⟨cI BK422.out 0, cI BK422.out 1, cI BK422.out 2⟩ (fun hHeld => ?_)
    clear hK K
    refine norm_ (a' := ?_) ?_ ?_
    rotate_left
    ·show Act.put _ (some 11) _ = _
     simp only [Act.put, sA, sZ, sS, i64_w, i32_w]
     rfl
    refine pure_ (i := 6) (N := some 12) (v := ?_) (a' := ?_) #[Y,Y,Y,Y,Y,Y,Y,Y,U] rfl rfl (any_of HT_.out (by kernel_rfl)) (fun _ _ _ h => h) (Or.inl ⟨by rfl, ?_⟩) ?_ ?_
    rotate_left
    ·intro w'
     go_simp
     with_reducible rfl
    rotate_left
    ·simp only [Act.put, sA, sZ, sS, i64_w, i32_w]
     rfl
    exact norm_ (by simp only [putAll, Act.put, sA, sZ, sS]) (hCont (.slice Ao11 t424.length co11, .slice Ao10 t427.length co10, gb430) _ ⟨hHeld, (kr HO426.out), (kr HO429.out), (bk BK422.out), (bk BK423.out), (bk BK430.out), GW430.out, GE430.out, NB422_430.out, NB430_422.out, NB423_430.out, NB430_423.out, (bl HB.out)⟩)
  ·skip
   refine box_step ?hg (N := 3) ?hd (cs := #[.slice none 0 0, .slice none 0 0, .slice none 0 0]) (t := 73) ?hr ?_; (case hd => rfl); (case hg => rfl); (case hr => first | (go_simp; done) | (go_simp; rfl))
   intro gb430 hg w7 hbox hb
   have n0_ := aM (bB (g := gb422) (o := .cells #[.slice A0_0 l0_0.length c0_0, .slice A0_1 l0_1.length c0_1, .slice A0_2 l0_2.length c0_2] 73 (0, 0)) (bk BK422.out) hb)
   have n1_ := aM (bB (g := gb423) (o := .cells #[.slice none 0 0, .slice none 0 0, .slice none 0 0] 73 (0, 0)) (bk BK423.out) hb)
   have n2_ := aM (bS (bl HB.out) hb)
   have n3_ := aM (hbox)
   have n4_ := aM ((by rw [hg]; exact (below_size (bl HB.out)) : w.heap.size ≤ gb430))
   have n5_ := aM ((by rw [hg]; exact (below_size (bl HB.out)) : w.heap.size ≤ gb430))
   have n6_ := aM ((by rw [hg]; exact Nat.ne_of_lt (blk_lt (g := gb422) (o := .cells #[.slice A0_0 l0_0.length c0_0, .slice A0_1 l0_1.length c0_1, .slice A0_2 l0_2.length c0_2] 73 (0, 0)) (bk BK422.out)) : gb422 ≠ gb430))
   have n7_ := aM ((by rw [hg]; exact Nat.ne_of_gt (blk_lt (g := gb422) (o := .cells #[.slice A0_0 l0_0.length c0_0, .slice A0_1 l0_1.length c0_1, .slice A0_2 l0_2.length c0_2] 73 (0, 0)) (bk BK422.out)) : gb430 ≠ gb422))
   have n8_ := aM ((by rw [hg]; exact Nat.ne_of_lt (blk_lt (g := gb423) (o := .cells #[.slice none 0 0, .slice none 0 0, .slice none 0 0] 73 (0, 0)) (bk BK423.out)) : gb423 ≠ gb430))
   have n9_ := aM ((by rw [hg]; exact Nat.ne_of_gt (blk_lt (g := gb423) (o := .cells #[.slice none 0 0, .slice none 0 0, .slice none 0 0] 73 (0, 0)) (bk BK423.out)) : gb430 ≠ gb423))
   clear BK422 BK423 HB
   have BK422 := n0_
   have BK423 := n1_
   have HB := n2_
   have BK430 := n3_
   have GW430 := n4_
   have GE430 := n5_
   have NB422_430 := n6_
   have NB430_422 := n7_
   have NB423_430 := n8_
   have NB430_423 := n9_
   clear n0_ n1_ n2_ n3_ n4_ n5_ n6_ n7_ n8_ n9_
   clear hb hbox hg
   refine hK.out _ _ ⟨cI BK422.out 0, cI BK422.out 1, cI BK422.out 2⟩ (fun hHeld => ?_)
   clear hK K
   refine norm_ (a' := ?_) ?_ ?_
   rotate_left
   ·show Act.put _ (some 3) _ = _
    simp only [Act.put, sA, sZ, sS, i64_w, i32_w]
    rfl
   refine one_ (i := 2) (N := some 8) #[Y,Y,Y,Y,Y,U,U,Y,U] rfl rfl (one_of HT_.out (by kernel_rfl)) (by decide) (fun K hK => ?_)
   refine goes_ Try.func156 (by kernel_rfl) rfl #[.slice A0_0 l0_0.length c0_0] (by rfl) rfl rfl xR ?_
   with_reducible refine (slices_Clone_bool_bool.calls _ _ l0_0 t424 _ ?side1 ?side2 A2.out).mono ?_
   (case side1 => repeat (first | exact (cB HR0_0.out HB.out) | (with_reducible refine Kd.C_alloc ?_ _) | (with_reducible refine Kd.C_drewN ?_ _) | (with_reducible refine Kd.C_drew ?_)))
   (case side2 => exact HC0_0.out)
   rintro e w8 ⟨v425, rfl, ho0, hb⟩
   refine ⟨_, rfl, ?_⟩
   have n0_ := aM (Kd.R_lower ho0 (below_size (bl HB.out)))
   have n1_ := aM (bB (g := gb422) (o := .cells #[.slice A0_0 l0_0.length c0_0, .slice A0_1 l0_1.length c0_1, .slice A0_2 l0_2.length c0_2] 73 (0, 0)) (bk BK422.out) hb)
   have n2_ := aM (bB (g := gb423) (o := .cells #[.slice none 0 0, .slice none 0 0, .slice none 0 0] 73 (0, 0)) (bk BK423.out) hb)
   have n3_ := aM (bB (g := gb430) (o := .cells #[.slice none 0 0, .slice none 0 0, .slice none 0 0] 73 (0, 0)) (bk BK430.out) hb)
   have n4_ := aM (bS (bl HB.out) hb)
   clear BK422 BK423
   clear BK430 HB
   have HO426 := n0_
   have BK422 := n1_
   have BK423 := n2_
   have BK430 := n3_
   have HB := n4_
   clear n0_ n1_ n2_ n3_ n4_
   (try clear hb)
   (try clear hb2)
   (try clear hk)
   (try clear hi)
   (try clear ho0)
   refine hK.out _ _ ⟨cI BK422.out 0, cI BK422.out 1, cI BK422.out 2⟩ (fun hHeld => ?_)
   clear hK K
   refine norm_ (a' := ?_) ?_ ?_
   rotate_left
   ·show Act.put _ (some 8) _ = _
    simp only [Act.put, sA, sZ, sS, i64_w, i32_w]
    rfl
   refine one_ (i := 5) (N := some 11) #[Y,Y,Y,Y,Y,Y,U,Y,U] rfl rfl (one_of HT_.out (by kernel_rfl)) (by decide) (fun K hK => ?_)
   refine goes_ Try.func75 (by kernel_rfl) rfl #[.slice A0_2 l0_2.length c0_2] (by rfl) rfl rfl xR ?_
   with_reducible refine (impl_Heard.calls _ _ l0_2 t427 _ ?side1 ?side2 A3.out).mono ?_
   (case side1 => repeat (first | exact (cB HR0_2.out HB.out) | (with_reducible refine Kd.C_alloc ?_ _) | (with_reducible refine Kd.C_drewN ?_ _) | (with_reducible refine Kd.C_drew ?_)))
   (case side2 => exact HC0_2.out)
   rintro e w9 ⟨v428, rfl, ho0, hb⟩
   refine ⟨_, rfl, ?_⟩
   have n0_ := aM (kB (kr HO426.out) hb)
   have n1_ := aM (Kd.R_lower ho0 (below_size (bl HB.out)))
   have n2_ := aM (bB (g := gb422) (o := .cells #[.slice A0_0 l0_0.length c0_0, .slice A0_1 l0_1.length c0_1, .slice A0_2 l0_2.length c0_2] 73 (0, 0)) (bk BK422.out) hb)
   have n3_ := aM (bB (g := gb423) (o := .cells #[.slice none 0 0, .slice none 0 0, .slice none 0 0] 73 (0, 0)) (bk BK423.out) hb)
   have n4_ := aM (bB (g := gb430) (o := .cells #[.slice none 0 0, .slice none 0 0, .slice none 0 0] 73 (0, 0)) (bk BK430.out) hb)
   have n5_ := aM (bS (bl HB.out) hb)
   clear HO426 BK422
   clear BK423 BK430 HB
   have HO426 := n0_
   have HO429 := n1_
   have BK422 := n2_
   have BK423 := n3_
   have BK430 := n4_
   have HB := n5_
   clear n0_ n1_ n2_ n3_ n4_ n5_
   (try clear hb)
   (try clear hb2)
   (try clear hk)
   (try clear hi)
   (try clear ho0)
   obtain ⟨Ao10, co10, eo10⟩ := Kd.R_slice HO429.out
   (first | subst eo10 | (injection eo10 with f1_ f2_ f3_; have f4_ := f1_.symm; have f5_ := f3_.symm; clear f1_ f2_ f3_; subst f4_; subst f5_))
   obtain ⟨Ao11, co11, eo11⟩ := Kd.R_slice HO426.out
   (first | subst eo11 | (injection eo11 with f1_ f2_ f3_; have f4_ := f1_.symm; have f5_ := f3_.symm; clear f1_ f2_ f3_; subst f4_; subst f5_))
   refine hK.out _ _ ⟨cI BK422.out 0, cI BK422.out 1, cI BK422.out 2⟩ (fun hHeld => ?_)
   clear hK K
   refine norm_ (a' := ?_) ?_ ?_
   rotate_left
   ·show Act.put _ (some 11) _ = _
    simp only [Act.put, sA, sZ, sS, i64_w, i32_w]
    rfl
   refine pure_ (i := 6) (N := some 12) (v := ?_) (a' := ?_) #[Y,Y,Y,Y,Y,Y,Y,Y,U] rfl rfl (any_of HT_.out (by kernel_rfl)) (fun _ _ _ h => h) (Or.inl ⟨by rfl, ?_⟩) ?_ ?_
   rotate_left
   ·intro w'
    go_simp
    with_reducible rfl
   rotate_left
   ·simp only [Act.put, sA, sZ, sS, i64_w, i32_w]
    rfl
   exact norm_ (by simp only [putAll, Act.put, sA, sZ, sS]) (hCont (.slice Ao11 t424.length co11, .slice Ao10 t427.length co10, gb430) _ ⟨hHeld, (kr HO426.out), (kr HO429.out), (bk BK422.out), (bk BK423.out), (bk BK430.out), GW430.out, GE430.out, NB422_430.out, NB430_422.out, NB423_430.out, NB430_423.out, (bl HB.out)⟩)
 rintro ⟨v425, v428, gb430⟩ w12 ⟨hS_, h0_, h1_, h2_, h3_, h4_, h5_, h6_, h7_, h8_, h9_, h10_, h11_⟩
 have n0_ : Aside0 (Kd.R Kd.bool 4 w12 w.heap.size (fun _ => True) v425 t424) := ⟨h0_⟩
 have n1_ : Aside0 (Kd.R k40 40 w12 w.heap.size (fun _ => True) v428 t427) := ⟨h1_⟩
 have n2_ : Aside0 (w12.heap[gb422]? = some (.cells #[.slice A0_0 l0_0.length c0_0, .slice A0_1 l0_1.length c0_1, .slice A0_2 l0_2.length c0_2] 73 (0, 0))) := ⟨h2_⟩
 have n3_ : Aside0 (w12.heap[gb423]? = some (.cells #[.slice none 0 0, .slice none 0 0, .slice none 0 0] 73 (0, 0))) := ⟨h3_⟩
 have n4_ : Aside0 (w12.heap[gb430]? = some (.cells #[.slice none 0 0, .slice none 0 0, .slice none 0 0] 73 (0, 0))) := ⟨h4_⟩
 have n5_ : Aside0 (w.heap.size ≤ gb430) := ⟨h5_⟩
 have n6_ : Aside0 (w.heap.size ≤ gb430) := ⟨h6_⟩
 have n7_ : Aside0 (gb422 ≠ gb430) := ⟨h7_⟩
 have n8_ : Aside0 (gb430 ≠ gb422) := ⟨h8_⟩
 have n9_ : Aside0 (gb423 ≠ gb430) := ⟨h9_⟩
 have n10_ : Aside0 (gb430 ≠ gb423) := ⟨h10_⟩
 have n11_ : Aside0 (Below w.heap.size w w12) := ⟨h11_⟩
 clear BK422 BK423 HB
 clear h0_ h1_ h2_ h3_ h4_ h5_ h6_ h7_ h8_ h9_ h10_ h11_
 have HO426 := n0_
 have HO429 := n1_
 have BK422 := n2_
 have BK423 := n3_
 have BK430 := n4_
 have GW430 := n5_
 have GE430 := n6_
 have NB422_430 := n7_
 have NB430_422 := n8_
 have NB423_430 := n9_
 have NB430_423 := n10_
 have HB := n11_
 clear n0_ n1_ n2_ n3_ n4_ n5_ n6_ n7_ n8_ n9_ n10_ n11_
 have hHeld : w12.cell? ⟨gb422, 0, none⟩ = some (.slice A0_0 l0_0.length c0_0) ∧ w12.cell? ⟨gb422, 1, none⟩ = some (.slice A0_1 l0_1.length c0_1) ∧ w12.cell? ⟨gb422, 2, none⟩ = some (.slice A0_2 l0_2.length c0_2) := hS_
 obtain ⟨Ao13, co13, eo13⟩ := Kd.R_slice HO429.out
 (first | subst eo13 | (injection eo13 with f1_ f2_ f3_; have f4_ := f1_.symm; have f5_ := f3_.symm; clear f1_ f2_ f3_; subst f4_; subst f5_))
 obtain ⟨Ao14, co14, eo14⟩ := Kd.R_slice HO426.out
 (first | subst eo14 | (injection eo14 with f1_ f2_ f3_; have f4_ := f1_.symm; have f5_ := f3_.symm; clear f1_ f2_ f3_; subst f4_; subst f5_))
 refine norm_ (a' := ?_) ?_ ?_
 rotate_left
 ·simp only [putAll, Act.put, sA, sZ, sS]
  rfl
 refine one_ (i := 8) (N := none) #[Y,Y,Y,Y,Y,Y,Y,Y,Y] rfl rfl (one_of HT_.out (by kernel_rfl)) (by decide) (fun K hK => ?_)
 have hs15 := cI BK430.out 0
 have hfs15 := bF BK430.out 0
 have hns15_0 := NB422_430.out
 have hns15_1 := NB423_430.out
 have hms15_0 := NB430_422.out
 have hms15_1 := NB430_423.out
 have hs16 := cI BK430.out 1
 have hfs16 := bF BK430.out 1
 have hns16_0 := NB422_430.out
 have hns16_1 := NB423_430.out
 have hms16_0 := NB430_422.out
 have hms16_1 := NB430_423.out
 have hs17 := cI BK430.out 2
 have hfs17 := bF BK430.out 2
 have hns17_0 := NB422_430.out
 have hns17_1 := NB423_430.out
 have hms17_0 := NB430_422.out
 have hms17_1 := NB430_423.out
 refine skip_ (w1 := ?_) (by rfl) rfl ?_ ?_
 rotate_left
 ·go_simp
  rfl
 refine hK.out _ _ ⟨((cell_far (p := ⟨gb430, _, none⟩) NB422_430.out _).trans (((cell_far (p := ⟨gb430, _, none⟩) NB422_430.out _).trans (((cell_far (p := ⟨gb430, _, none⟩) NB422_430.out _).trans (hHeld.1)))))), ((cell_far (p := ⟨gb430, _, none⟩) NB422_430.out _).trans (((cell_far (p := ⟨gb430, _, none⟩) NB422_430.out _).trans (((cell_far (p := ⟨gb430, _, none⟩) NB422_430.out _).trans (hHeld.2.1)))))), ((cell_far (p := ⟨gb430, _, none⟩) NB422_430.out _).trans (((cell_far (p := ⟨gb430, _, none⟩) NB422_430.out _).trans (((cell_far (p := ⟨gb430, _, none⟩) NB422_430.out _).trans (hHeld.2.2))))))⟩ (fun hHeld => ?_)
 clear hK K
 refine done_ (done_of HT_.out (by kernel_rfl)) ?_
 have hnb18 := NB422_423.out
 have hnc18 := NB423_422.out
 have hnb19 := NB422_430.out
 have hnc19 := NB430_422.out
 have hcz20_0 := cI BK422.out 0
 have hcz20_1 := cI BK422.out 1
 have hcz20_2 := cI BK422.out 2
 have hfz20_0 := bF BK422.out 0
 have hfz20_1 := bF BK422.out 1
 have hfz20_2 := bF BK422.out 2
 try go_wp2
 go_loopg [16] k (fun kq v16 w' => ∃ (x16_1 : Int) (x431001_1 : List (S129)) (u431001 : Value), v16 = .int .i64 x16_1 ∧ Aside0 (impl_copyCard.l0 kq l0_1 (l0_1.length : Int) x16_1 t424 x431001_1 t427 = some (r1, r2, r3)) ∧ Aside0 (kq ≤ k) ∧ Aside0 (Kd.R Kd.bool 4 w' w.heap.size (fun _ => True) (.slice Ao14 t424.length co14) t424) ∧ Aside0 (Kd.S k129 129 w' w.heap.size (fun _ => True) u431001 x431001_1) ∧ Aside0 (Kd.R k40 40 w' w.heap.size (fun _ => True) (.slice Ao13 t427.length co13) t427) ∧ Aside0 (w'.heap[gb422]? = some (.cells #[(.slice A0_0 l0_0.length c0_0), (.slice A0_1 l0_1.length c0_1), (.slice A0_2 l0_2.length c0_2)] 73 (0, 0))) ∧ Aside0 (w'.heap[gb423]? = some (.cells #[(.slice none 0 0), (.slice none 0 0), (.slice none 0 0)] 73 (0, 0))) ∧ Aside0 (w'.heap[gb430]? = some (.cells #[(.slice Ao14 t424.length co14), u431001, (.slice Ao13 t427.length co13)] 73 (0, 0))) ∧ Aside0 (Below w.heap.size w w'))
 case atStart => exact ⟨(0), (([] : List (S129))), (.slice none 0 0), xE, H', ⟨Nat.le_refl _⟩, ⟨kr (Kd.R_mono (kF (p := ⟨gb430, 2, none⟩) (kF (p := ⟨gb430, 1, none⟩) (kF (p := ⟨gb430, 0, none⟩) (Kd.R_types HO426.out BK430.out (by decide)) (fun _ hk => hk.2) (.slice Ao14 t424.length co14)) (fun _ hk => hk.2) (.slice none 0 0)) (fun _ hk => hk.2) (.slice Ao13 t427.length co13)) (fun _ hk => trivial))⟩, ⟨by first | exact Kd.S_nil _ _ _ _ _ | exact Kd.N_nil _ _ _ _ _ | exact Kd.V_nil _ _ _ _ _ | exact Kd.Q_nil _ _ _ _ _ | exact Kd.R_nil _ _ _ _ _⟩, ⟨kr (Kd.R_mono (kF (p := ⟨gb430, 2, none⟩) (kF (p := ⟨gb430, 1, none⟩) (kF (p := ⟨gb430, 0, none⟩) (Kd.R_types HO429.out BK430.out (by decide)) (fun _ hk => hk.2) (.slice Ao14 t424.length co14)) (fun _ hk => hk.2) (.slice none 0 0)) (fun _ hk => hk.2) (.slice Ao13 t427.length co13)) (fun _ hk => trivial))⟩, ⟨by (with_reducible repeat (first | refine blk_drewN ?_ _ | refine blk_drew ?_ | refine blk_alloc ?_ _)); refine blk_far ?_ NB422_430.out _; (with_reducible repeat (first | refine blk_drewN ?_ _ | refine blk_drew ?_ | refine blk_alloc ?_ _)); refine blk_far ?_ NB422_430.out _; (with_reducible repeat (first | refine blk_drewN ?_ _ | refine blk_drew ?_ | refine blk_alloc ?_ _)); refine blk_far ?_ NB422_430.out _; (with_reducible repeat (first | refine blk_drewN ?_ _ | refine blk_drew ?_ | refine blk_alloc ?_ _)); exact BK422.out⟩, ⟨by (with_reducible repeat (first | refine blk_drewN ?_ _ | refine blk_drew ?_ | refine blk_alloc ?_ _)); refine blk_far ?_ NB423_430.out _; (with_reducible repeat (first | refine blk_drewN ?_ _ | refine blk_drew ?_ | refine blk_alloc ?_ _)); refine blk_far ?_ NB423_430.out _; (with_reducible repeat (first | refine blk_drewN ?_ _ | refine blk_drew ?_ | refine blk_alloc ?_ _)); refine blk_far ?_ NB423_430.out _; (with_reducible repeat (first | refine blk_drewN ?_ _ | refine blk_drew ?_ | refine blk_alloc ?_ _)); exact BK423.out⟩, ⟨by (with_reducible repeat (first | refine blk_drewN ?_ _ | refine blk_drew ?_ | refine blk_alloc ?_ _)); refine blk_put (cs := #[.slice Ao14 t424.length co14, .slice none 0 0, .slice none 0 0]) ?_ 2 _ rfl; (with_reducible repeat (first | refine blk_drewN ?_ _ | refine blk_drew ?_ | refine blk_alloc ?_ _)); refine blk_put (cs := #[.slice Ao14 t424.length co14, .slice none 0 0, .slice none 0 0]) ?_ 1 _ rfl; (with_reducible repeat (first | refine blk_drewN ?_ _ | refine blk_drew ?_ | refine blk_alloc ?_ _)); refine blk_put (cs := #[.slice none 0 0, .slice none 0 0, .slice none 0 0]) ?_ 0 _ rfl; (with_reducible repeat (first | refine blk_drewN ?_ _ | refine blk_drew ?_ | refine blk_alloc ?_ _)); exact BK430.out⟩, ⟨bl HB.out⟩⟩
 case round =>
  clear H'
  try clear c1
  try clear p2
  try clear c7
  try clear c11
  try clear c15
  try clear c18
  try clear c19
  try clear hcz20_0
  try clear hcz20_1
  try clear hcz20_2
  try clear hfz20_0
  try clear hfz20_1
  try clear hfz20_2
  obtain ⟨x16_1, x431001_1, u431001, rfl, HA, HK1, HO_431000, HO_431001, HO_431002, BK422, BK423, BK430, HB⟩ := hrel
  cases gk with
  | zero => exact absurd HA.out (by simp [impl_copyCard.l0])
  | succ k1 =>
   have H := HA.out
   clear HA
   simp only [impl_copyCard.l0] at H
   by_cases c21 : x16_1 < (l0_1.length : Int)
   case neg =>
    rw [if_neg c21] at H
    have c21b0 : decide (x16_1 < (l0_1.length : Int)) = false := decide_eq_false c21
    clear c21
    simp only [Option.some.injEq, Prod.mk.injEq] at H
    obtain ⟨rfl, rfl, rfl⟩ := H
    have hnb38 := NB430_422.out
    have hnc38 := NB422_430.out
    have hnb39 := NB430_423.out
    have hnc39 := NB423_430.out
    have hcz40_0 := cI BK430.out 0
    have hcz40_1 := cI BK430.out 1
    have hcz40_2 := cI BK430.out 2
    have hfz40_0 := bF BK430.out 0
    have hfz40_1 := bF BK430.out 1
    have hfz40_2 := bF BK430.out 2
    have hnb41 := NB423_422.out
    have hnc41 := NB422_423.out
    have hcz42_0 := cI BK423.out 0
    have hcz42_1 := cI BK423.out 1
    have hcz42_2 := cI BK423.out 2
    have hfz42_0 := bF BK423.out 0
    have hfz42_1 := bF BK423.out 1
    have hfz42_2 := bF BK423.out 2
    obtain ⟨Ao43, co43, eo43⟩ := Kd.S_slice HO_431001.out
    subst eo43
    go_wp2
    refine bodyPost_ret (results_cell_row rfl _ _ gb423 73 #[.slice Ao14 t424.length co14, .slice Ao43 x431001_1.length co43, .slice Ao13 t427.length co13] (0, 0) _ rfl (by (with_reducible repeat (first | refine blk_drewN ?_ _ | refine blk_drew ?_ | refine blk_alloc ?_ _)); refine blk_put (cs := #[.slice Ao14 t424.length co14, .slice Ao43 x431001_1.length co43, .slice none 0 0]) ?_ 2 _ rfl; (with_reducible repeat (first | refine blk_drewN ?_ _ | refine blk_drew ?_ | refine blk_alloc ?_ _)); refine blk_put (cs := #[.slice Ao14 t424.length co14, .slice none 0 0, .slice none 0 0]) ?_ 1 _ rfl; (with_reducible repeat (first | refine blk_drewN ?_ _ | refine blk_drew ?_ | refine blk_alloc ?_ _)); refine blk_put (cs := #[.slice none 0 0, .slice none 0 0, .slice none 0 0]) ?_ 0 _ rfl; (with_reducible repeat (first | refine blk_drewN ?_ _ | refine blk_drew ?_ | refine blk_alloc ?_ _)); exact BK423.out) Try.underlying73 rfl (by kernel_rfl)) rfl ?_
    exact ⟨_, _, _, xW, by (with_reducible repeat (first | apply Kd.R_alloc | apply Kd.R_drewN | apply Kd.R_drew)); exact Kd.R_mono (kF (p := ⟨gb423, 2, none⟩) (kF (p := ⟨gb423, 1, none⟩) (kF (p := ⟨gb423, 0, none⟩) (Kd.R_types HO_431000.out BK423.out (by decide)) (fun _ hk => hk.2) (.slice Ao14 t424.length co14)) (fun _ hk => hk.2) (.slice Ao43 x431001_1.length co43)) (fun _ hk => hk.2) (.slice Ao13 t427.length co13)) (fun _ hk => trivial), by (with_reducible repeat (first | apply Kd.S_alloc | apply Kd.S_drewN | apply Kd.S_drew)); exact Kd.S_mono (Kd.S_far (p := ⟨gb423, 2, none⟩) (Kd.S_far (p := ⟨gb423, 1, none⟩) (Kd.S_far (p := ⟨gb423, 0, none⟩) (Kd.S_types HO_431001.out BK423.out (by decide)) (fun _ hk => hk.2) (.slice Ao14 t424.length co14)) (fun _ hk => hk.2) (.slice Ao43 x431001_1.length co43)) (fun _ hk => hk.2) (.slice Ao13 t427.length co13)) (fun _ hk => trivial), by (with_reducible repeat (first | apply Kd.R_alloc | apply Kd.R_drewN | apply Kd.R_drew)); exact Kd.R_mono (kF (p := ⟨gb423, 2, none⟩) (kF (p := ⟨gb423, 1, none⟩) (kF (p := ⟨gb423, 0, none⟩) (Kd.R_types HO_431002.out BK423.out (by decide)) (fun _ hk => hk.2) (.slice Ao14 t424.length co14)) (fun _ hk => hk.2) (.slice Ao43 x431001_1.length co43)) (fun _ hk => hk.2) (.slice Ao13 t427.length co13)) (fun _ hk => trivial), bl HB.out⟩
   rw [if_pos c21] at H
   have c21b0 : decide (x16_1 < (l0_1.length : Int)) = true := decide_eq_true c21
   clear c21
   by_cases c22 : 0 ≤ x16_1
   case neg =>
    rw [if_neg c22] at H
    exact absurd H (by simp)
   rw [if_pos c22] at H
   have c22b0 : decide (0 ≤ x16_1) = true := decide_eq_true c22
   clear c22
   by_cases c23 : x16_1 < (l0_1.length : Int)
   case neg =>
    rw [if_neg c23] at H
    exact absurd H (by simp)
   rw [if_pos c23] at H
   have c23b0 : decide (x16_1 < (l0_1.length : Int)) = true := decide_eq_true c23
   clear c23
   replace H := Option.bind_eq_some_iff.mp H
   obtain ⟨t433, A240, H⟩ := H
   replace H : (if x431001_1.length < 4398046511104 then (impl_copyCard.l0 k1 l0_1 (l0_1.length : Int) (wrap64 (x16_1 + 1)) t424 (x431001_1 ++ [(⟨(rd_T129 l0_1 x16_1).f0, t433⟩ : S129)]) t427) else (none)) = some (r1, r2, r3) := H
   have A24 := aM A240
   clear A240
   by_cases c25 : x431001_1.length < 4398046511104
   case neg =>
    rw [if_neg c25] at H
    exact absurd H (by simp)
   rw [if_pos c25] at H
   have LMc25 := aM c25
   clear c25
   obtain ⟨y436, hy436⟩ : ∃ y_ : List (S129), y_ = (x431001_1 ++ [(⟨(rd_T129 l0_1 x16_1).f0, t433⟩ : S129)]) := ⟨_, rfl⟩
   replace H : (impl_copyCard.l0 k1 l0_1 (l0_1.length : Int) (wrap64 (x16_1 + 1)) t424 y436 t427) = some (r1, r2, r3) := by first | (rw [hy436]; with_reducible exact H) | (have H2_ := (Option.bind_some _ _).symm.trans H; rw [hy436]; with_reducible exact H2_) | (have H2_ := (Option.bind_some _ _).symm.trans H; with_reducible exact H2_) | with_reducible exact H | (rw [hy436]; exact H) | exact H
   have Ny436 := aM hy436
   clear hy436
   have H' := aM H
   clear H
   have p431 : 0 ≤ (x16_1 : Int) := of_decide_eq_true (by first | (with_reducible assumption) | assumption)
   have q431 : x16_1 < (l0_1.length : Int) := of_decide_eq_true (by first | (with_reducible assumption) | assumption)
   obtain ⟨ad431, A431_1, c431_1, e431, hx431_0, hx431_1, hl431_1, hi431_1⟩ := at_T129 HR0_1.out x16_1 p431 q431
   cases e431
   replace hx431_0 := (HB.out.cell (World.block_lt_of_cell? w _ hx431_0)).trans hx431_0
   replace hx431_1 := (HB.out.cell (World.block_lt_of_cell? w _ hx431_1)).trans hx431_1
   have HR431_1 := aM hi431_1
   have HC431_1 := aM hl431_1
   clear hi431_1 hl431_1
   replace p431 := eq_true p431
   replace q431 := eq_true q431
   try go_wp2_with (first | ((with_reducible refine gate_dst (N := 5) rfl ?_); refine box_event ?hg (N := 5) ?hd (cs := #[.int .i64 0, .slice none 0 0]) (t := 129) ?hr ?_; (case hd => rfl); (case hg => rfl); (case hr => first | (go_simp; done) | (go_simp; rfl) | (obtain ⟨A_, c_, e_⟩ := Kd.R_slice HO_431000.out; subst e_; (first | (go_simp; done) | (go_simp; rfl))) | (obtain ⟨A_, c_, e_⟩ := Kd.S_slice HO_431000.out; subst e_; (first | (go_simp; done) | (go_simp; rfl))) | (obtain ⟨A_, c_, e_⟩ := Kd.R_slice HO_431001.out; subst e_; (first | (go_simp; done) | (go_simp; rfl))) | (obtain ⟨A_, c_, e_⟩ := Kd.S_slice HO_431001.out; subst e_; (first | (go_simp; done) | (go_simp; rfl))) | (obtain ⟨A_, c_, e_⟩ := Kd.R_slice HO_431002.out; subst e_; (first | (go_simp; done) | (go_simp; rfl))) | (obtain ⟨A_, c_, e_⟩ := Kd.S_slice HO_431002.out; subst e_; (first | (go_simp; done) | (go_simp; rfl)))); intro gb432 hg w26 hbox hb; have n0_ := aM (kB (kr HO_431000.out) hb); have n1_ := aM (Kd.S_below (Kd.S_elderB (by (with_reducible repeat (first | apply Kd.S_alloc | apply Kd.S_drewN | apply Kd.S_drew)); exact HO_431001.out) gb432 (Nat.le_of_eq hg.symm)) hb); have n2_ := aM (kB (kr HO_431002.out) hb); have n3_ := aM (bB (g := gb422) (o := .cells #[.slice A0_0 l0_0.length c0_0, .slice (some ad431) l0_1.length c0_1, .slice A0_2 l0_2.length c0_2] 73 (0, 0)) (bk BK422.out) hb); have n4_ := aM (bB (g := gb423) (o := .cells #[.slice none 0 0, .slice none 0 0, .slice none 0 0] 73 (0, 0)) (bk BK423.out) hb); have n5_ := aM (bB (g := gb430) (o := .cells #[.slice Ao14 t424.length co14, u431001, .slice Ao13 t427.length co13] 73 (0, 0)) (bk BK430.out) hb); have n6_ := aM (bS (bl HB.out) hb); have n7_ := aM (hbox); have n8_ := aM ((by rw [hg]; exact (below_size (bl HB.out)) : w.heap.size ≤ gb432)); have n9_ := aM ((by rw [hg]; exact (below_size (bl HB.out)) : w.heap.size ≤ gb432)); have n10_ := aM ((by rw [hg]; exact Nat.ne_of_lt (blk_lt (g := gb422) (o := .cells #[.slice A0_0 l0_0.length c0_0, .slice (some ad431) l0_1.length c0_1, .slice A0_2 l0_2.length c0_2] 73 (0, 0)) (bk BK422.out)) : gb422 ≠ gb432)); have n11_ := aM ((by rw [hg]; exact Nat.ne_of_gt (blk_lt (g := gb422) (o := .cells #[.slice A0_0 l0_0.length c0_0, .slice (some ad431) l0_1.length c0_1, .slice A0_2 l0_2.length c0_2] 73 (0, 0)) (bk BK422.out)) : gb432 ≠ gb422)); have n12_ := aM ((by rw [hg]; exact Nat.ne_of_lt (blk_lt (g := gb423) (o := .cells #[.slice none 0 0, .slice none 0 0, .slice none 0 0] 73 (0, 0)) (bk BK423.out)) : gb423 ≠ gb432)); have n13_ := aM ((by rw [hg]; exact Nat.ne_of_gt (blk_lt (g := gb423) (o := .cells #[.slice none 0 0, .slice none 0 0, .slice none 0 0] 73 (0, 0)) (bk BK423.out)) : gb432 ≠ gb423)); have n14_ := aM ((by rw [hg]; exact Nat.ne_of_lt (blk_lt (g := gb430) (o := .cells #[.slice Ao14 t424.length co14, u431001, .slice Ao13 t427.length co13] 73 (0, 0)) (bk BK430.out)) : gb430 ≠ gb432)); have n15_ := aM ((by rw [hg]; exact Nat.ne_of_gt (blk_lt (g := gb430) (o := .cells #[.slice Ao14 t424.length co14, u431001, .slice Ao13 t427.length co13] 73 (0, 0)) (bk BK430.out)) : gb432 ≠ gb430)); clear HO_431000 HO_431001; clear HO_431002 BK422; clear BK423 BK430 HB; have HO_431000 := n0_; have HO_431001 := n1_; have HO_431002 := n2_; have BK422 := n3_; have BK423 := n4_; have BK430 := n5_; have HB := n6_; have BK432 := n7_; have GW432 := n8_; have GE432 := n9_; have NB422_432 := n10_; have NB432_422 := n11_; have NB423_432 := n12_; have NB432_423 := n13_; have NB430_432 := n14_; have NB432_430 := n15_; clear n0_ n1_ n2_ n3_ n4_ n5_ n6_ n7_ n8_ n9_ n10_ n11_ n12_ n13_ n14_ n15_; clear hb hbox hg; have hnb27 := NB432_422.out; have hnc27 := NB422_432.out; have hnb28 := NB432_423.out; have hnc28 := NB423_432.out; have hnb29 := NB432_430.out; have hnc29 := NB430_432.out; have hcz30_0 := cI BK432.out 0; have hcz30_1 := cI BK432.out 1; have hfz30_0 := bF BK432.out 0; have hfz30_1 := bF BK432.out 1))
   have n0_ : Aside0 (Kd.R Kd.bool 4 ((w26.setCell ⟨gb432, 0, none⟩ (.int .i64 ((rd_T129 l0_1 x16_1).f0))).setCell ⟨gb432, 1, none⟩ (.slice A431_1 ((rd_T129 l0_1 x16_1).f1).length c431_1)) w.heap.size (fun _ => True) (.slice Ao14 t424.length co14) t424) := ⟨kr (Kd.R_mono (kF (p := ⟨gb432, 1, none⟩) (kF (p := ⟨gb432, 0, none⟩) (Kd.R_types HO_431000.out BK432.out (by decide)) (fun _ hk => hk.2) (.int .i64 ((rd_T129 l0_1 x16_1).f0))) (fun _ hk => hk.2) (.slice A431_1 ((rd_T129 l0_1 x16_1).f1).length c431_1)) (fun _ hk => trivial))⟩
   have n1_ : Aside0 (Kd.S k129 129 ((w26.setCell ⟨gb432, 0, none⟩ (.int .i64 ((rd_T129 l0_1 x16_1).f0))).setCell ⟨gb432, 1, none⟩ (.slice A431_1 ((rd_T129 l0_1 x16_1).f1).length c431_1)) w.heap.size (fun k_ => k_ ≠ gb432) u431001 x431001_1) := ⟨by (with_reducible repeat (first | apply Kd.S_alloc | apply Kd.S_drewN | apply Kd.S_drew)); exact Kd.S_mono (Kd.S_far (p := ⟨gb432, 1, none⟩) (Kd.S_far (p := ⟨gb432, 0, none⟩) (Kd.S_mono HO_431001.out (fun k_ hk => (⟨hk, hk.2⟩ : _ ∧ k_ ≠ gb432))) (fun _ hk => hk.2) (.int .i64 ((rd_T129 l0_1 x16_1).f0))) (fun _ hk => hk.2) (.slice A431_1 ((rd_T129 l0_1 x16_1).f1).length c431_1)) (fun _ hk => hk.1.2)⟩
   have n2_ : Aside0 (Kd.R k40 40 ((w26.setCell ⟨gb432, 0, none⟩ (.int .i64 ((rd_T129 l0_1 x16_1).f0))).setCell ⟨gb432, 1, none⟩ (.slice A431_1 ((rd_T129 l0_1 x16_1).f1).length c431_1)) w.heap.size (fun _ => True) (.slice Ao13 t427.length co13) t427) := ⟨kr (Kd.R_mono (kF (p := ⟨gb432, 1, none⟩) (kF (p := ⟨gb432, 0, none⟩) (Kd.R_types HO_431002.out BK432.out (by decide)) (fun _ hk => hk.2) (.int .i64 ((rd_T129 l0_1 x16_1).f0))) (fun _ hk => hk.2) (.slice A431_1 ((rd_T129 l0_1 x16_1).f1).length c431_1)) (fun _ hk => trivial))⟩
   have n3_ : Aside0 (((w26.setCell ⟨gb432, 0, none⟩ (.int .i64 ((rd_T129 l0_1 x16_1).f0))).setCell ⟨gb432, 1, none⟩ (.slice A431_1 ((rd_T129 l0_1 x16_1).f1).length c431_1)).heap[gb422]? = some (.cells #[.slice A0_0 l0_0.length c0_0, .slice (some ad431) l0_1.length c0_1, .slice A0_2 l0_2.length c0_2] 73 (0, 0))) := ⟨by (with_reducible repeat (first | refine blk_drewN ?_ _ | refine blk_drew ?_ | refine blk_alloc ?_ _)); refine blk_far ?_ NB422_432.out _; (with_reducible repeat (first | refine blk_drewN ?_ _ | refine blk_drew ?_ | refine blk_alloc ?_ _)); refine blk_far ?_ NB422_432.out _; (with_reducible repeat (first | refine blk_drewN ?_ _ | refine blk_drew ?_ | refine blk_alloc ?_ _)); exact BK422.out⟩
   have n4_ : Aside0 (((w26.setCell ⟨gb432, 0, none⟩ (.int .i64 ((rd_T129 l0_1 x16_1).f0))).setCell ⟨gb432, 1, none⟩ (.slice A431_1 ((rd_T129 l0_1 x16_1).f1).length c431_1)).heap[gb423]? = some (.cells #[.slice none 0 0, .slice none 0 0, .slice none 0 0] 73 (0, 0))) := ⟨by (with_reducible repeat (first | refine blk_drewN ?_ _ | refine blk_drew ?_ | refine blk_alloc ?_ _)); refine blk_far ?_ NB423_432.out _; (with_reducible repeat (first | refine blk_drewN ?_ _ | refine blk_drew ?_ | refine blk_alloc ?_ _)); refine blk_far ?_ NB423_432.out _; (with_reducible repeat (first | refine blk_drewN ?_ _ | refine blk_drew ?_ | refine blk_alloc ?_ _)); exact BK423.out⟩
   have n5_ : Aside0 (((w26.setCell ⟨gb432, 0, none⟩ (.int .i64 ((rd_T129 l0_1 x16_1).f0))).setCell ⟨gb432, 1, none⟩ (.slice A431_1 ((rd_T129 l0_1 x16_1).f1).length c431_1)).heap[gb430]? = some (.cells #[.slice Ao14 t424.length co14, u431001, .slice Ao13 t427.length co13] 73 (0, 0))) := ⟨by (with_reducible repeat (first | refine blk_drewN ?_ _ | refine blk_drew ?_ | refine blk_alloc ?_ _)); refine blk_far ?_ NB430_432.out _; (with_reducible repeat (first | refine blk_drewN ?_ _ | refine blk_drew ?_ | refine blk_alloc ?_ _)); refine blk_far ?_ NB430_432.out _; (with_reducible repeat (first | refine blk_drewN ?_ _ | refine blk_drew ?_ | refine blk_alloc ?_ _)); exact BK430.out⟩
   have n6_ : Aside0 (((w26.setCell ⟨gb432, 0, none⟩ (.int .i64 ((rd_T129 l0_1 x16_1).f0))).setCell ⟨gb432, 1, none⟩ (.slice A431_1 ((rd_T129 l0_1 x16_1).f1).length c431_1)).heap[gb432]? = some (.cells #[.int .i64 ((rd_T129 l0_1 x16_1).f0), .slice A431_1 ((rd_T129 l0_1 x16_1).f1).length c431_1] 129 (0, 0))) := ⟨by (with_reducible repeat (first | refine blk_drewN ?_ _ | refine blk_drew ?_ | refine blk_alloc ?_ _)); refine blk_put (cs := #[.int .i64 ((rd_T129 l0_1 x16_1).f0), .slice none 0 0]) ?_ 1 _ rfl; (with_reducible repeat (first | refine blk_drewN ?_ _ | refine blk_drew ?_ | refine blk_alloc ?_ _)); refine blk_put (cs := #[.int .i64 0, .slice none 0 0]) ?_ 0 _ rfl; (with_reducible repeat (first | refine blk_drewN ?_ _ | refine blk_drew ?_ | refine blk_alloc ?_ _)); exact BK432.out⟩
   have n7_ : Aside0 (Below w.heap.size w ((w26.setCell ⟨gb432, 0, none⟩ (.int .i64 ((rd_T129 l0_1 x16_1).f0))).setCell ⟨gb432, 1, none⟩ (.slice A431_1 ((rd_T129 l0_1 x16_1).f1).length c431_1))) := ⟨bl HB.out⟩
   (try clear HO_431000)
   (try clear HO_431001)
   (try clear HO_431002)
   (try clear BK422)
   (try clear BK423)
   (try clear BK430)
   (try clear BK432)
   (try clear HB)
   generalize ((w26.setCell ⟨gb432, 0, none⟩ (.int .i64 ((rd_T129 l0_1 x16_1).f0))).setCell ⟨gb432, 1, none⟩ (.slice A431_1 ((rd_T129 l0_1 x16_1).f1).length c431_1)) = w31 at n0_ n1_ n2_ n3_ n4_ n5_ n6_ n7_ ⊢
   have HO_431000 := n0_
   have HO_431001 := n1_
   have HO_431002 := n2_
   have BK422 := n3_
   have BK423 := n4_
   have BK430 := n5_
   have BK432 := n6_
   have HB := n7_
   clear n0_ n1_ n2_ n3_ n4_ n5_ n6_ n7_
   have n0_ := aM (Kd.R_drew HO_431000.out)
   have n1_ := aM (Kd.S_drew HO_431001.out)
   have n2_ := aM (Kd.R_drew HO_431002.out)
   have n3_ := aM (blk_drew BK422.out)
   have n4_ := aM (blk_drew BK423.out)
   have n5_ := aM (blk_drew BK430.out)
   have n6_ := aM (blk_drew BK432.out)
   have n7_ := aM (below_drew1 HB.out)
   clear HO_431000 HO_431001
   clear HO_431002 BK422
   clear BK423 BK430
   clear BK432 HB
   have HO_431000 := n0_
   have HO_431001 := n1_
   have HO_431002 := n2_
   have BK422 := n3_
   have BK423 := n4_
   have BK430 := n5_
   have BK432 := n6_
   have HB := n7_
   clear n0_ n1_ n2_ n3_ n4_ n5_ n6_ n7_
   refine start_ (n := 12) (S := fun w' => w'.cell? ⟨gb430, 0, none⟩ = some (.slice Ao14 t424.length co14) ∧ w'.cell? ⟨gb430, 1, none⟩ = some (u431001) ∧ w'.cell? ⟨gb430, 2, none⟩ = some (.slice Ao13 t427.length co13) ∧ w'.cell? ⟨gb432, 0, none⟩ = some (.int .i64 ((rd_T129 l0_1 x16_1).f0)) ∧ w'.cell? ⟨gb432, 1, none⟩ = some (.slice A431_1 ((rd_T129 l0_1 x16_1).f1).length c431_1)) (ds := [11]) #[U,U,U,U,U,U,U,U,U,U,U,U] (by kernel_rfl) rfl rfl ⟨cI BK430.out 0, cI BK430.out 1, cI BK430.out 2, cI BK432.out 0, cI BK432.out 1⟩ (fun hHeld => ?_); refine with_tabW impl_copyCard.tab5 impl_copyCard.bits5 (fun HT_ HW_ => ?_)
   generalize w31.drew = w32 at HO_431000 HO_431001 HO_431002 BK422 BK423 BK430 BK432 HB hHeld ⊢
   refine pure_ (i := 0) (N := some 20) (v := ?_) (a' := ?_) #[Y,U,U,U,U,U,U,U,U,U,U,U] rfl rfl (any_of HT_.out (by kernel_rfl)) (fun _ _ _ h => h) (Or.inl ⟨by rfl, ?_⟩) ?_ ?_
   rotate_left
   ·intro w'
    go_simp
    with_reducible rfl
   rotate_left
   ·simp only [Act.put, sA, sZ, sS, i64_w, i32_w]
    rfl
   refine pure_ (i := 2) (N := some 22) (v := ?_) (a' := ?_) #[Y,U,Y,U,U,U,U,U,U,U,U,U] rfl rfl (any_of HT_.out (by kernel_rfl)) (fun _ _ _ h => h) (Or.inl ⟨by rfl, ?_⟩) ?_ ?_
   rotate_left
   ·intro w'
    go_simp
    with_reducible rfl
   rotate_left
   ·simp only [Act.put, sA, sZ, sS, i64_w, i32_w]
    rfl
   refine pure_ (i := 4) (N := some 24) (v := ?_) (a' := ?_) #[Y,U,Y,U,Y,U,U,U,U,U,U,U] rfl rfl (any_of HT_.out (by kernel_rfl)) (fun _ _ _ h => h) (Or.inl ⟨by rfl, ?_⟩) ?_ ?_
   rotate_left
   ·intro w'
    go_simp
    with_reducible rfl
   rotate_left
   ·simp only [Act.put, sA, sZ, sS, i64_w, i32_w]
    rfl
   refine take_ (i := 1) (N := some 21) (v := ?_) (a' := ?_) #[Y,Y,Y,U,Y,U,U,U,U,U,U,U] rfl rfl (take_ofW HT_.out HW_.out (by kernel_rfl)) (fun _ _ _ h => h) (Or.inl ⟨by rfl, ?_⟩) hHeld ?_ ?_
   rotate_left
   ·rintro w' ⟨s0, s1, s2, s3, s4⟩
    go_simp
    with_reducible rfl
   rotate_left
   ·simp only [Act.put, sA, sZ, sS, i64_w, i32_w]
    rfl
   refine take_ (i := 3) (N := some 23) (v := ?_) (a' := ?_) #[Y,Y,Y,Y,Y,U,U,U,U,U,U,U] rfl rfl (take_ofW HT_.out HW_.out (by kernel_rfl)) (fun _ _ _ h => h) (Or.inl ⟨by rfl, ?_⟩) hHeld ?_ ?_
   rotate_left
   ·rintro w' ⟨s0, s1, s2, s3, s4⟩
    go_simp
    with_reducible rfl
   rotate_left
   ·simp only [Act.put, sA, sZ, sS, i64_w, i32_w]
    rfl
   refine take_ (i := 5) (N := some 25) (v := ?_) (a' := ?_) #[Y,Y,Y,Y,Y,Y,U,U,U,U,U,U] rfl rfl (take_ofW HT_.out HW_.out (by kernel_rfl)) (fun _ _ _ h => h) (Or.inl ⟨by rfl, ?_⟩) hHeld ?_ ?_
   rotate_left
   ·rintro w' ⟨s0, s1, s2, s3, s4⟩
    go_simp
    with_reducible rfl
   rotate_left
   ·simp only [Act.put, sA, sZ, sS, i64_w, i32_w]
    rfl
   refine one_ (i := 6) (N := some 26) #[Y,Y,Y,Y,Y,Y,Y,U,U,U,U,U] rfl rfl (one_of HT_.out (by kernel_rfl)) (by decide) (fun K hK => ?_)
   refine goes_ Try.func157 (by kernel_rfl) rfl #[.slice A431_1 ((rd_T129 l0_1 x16_1).f1).length c431_1] (by rfl) rfl rfl xR ?_
   with_reducible refine (slices_Clone_int_int.calls _ _ ((rd_T129 l0_1 x16_1).f1) t433 _ ?side1 ?side2 A24.out).mono ?_
   (case side1 => repeat (first | exact (cB HR431_1.out HB.out) | (with_reducible refine Kd.C_alloc ?_ _) | (with_reducible refine Kd.C_drewN ?_ _) | (with_reducible refine Kd.C_drew ?_)))
   (case side2 => exact HC431_1.out)
   rintro e w33 ⟨v434, rfl, ho0, hb⟩
   refine ⟨_, rfl, ?_⟩
   have n0_ := aM (kB (kr HO_431000.out) hb)
   have n1_ := aM (Kd.S_elder' (by (with_reducible repeat (first | apply Kd.S_alloc | apply Kd.S_drewN | apply Kd.S_drew)); exact HO_431001.out) (Kd.R_base ho0) hb)
   have n2_ := aM (kB (kr HO_431002.out) hb)
   have n3_ := aM (Kd.R_lower ho0 (below_size (bl HB.out)))
   have n4_ := aM (bB (g := gb422) (o := .cells #[.slice A0_0 l0_0.length c0_0, .slice (some ad431) l0_1.length c0_1, .slice A0_2 l0_2.length c0_2] 73 (0, 0)) (bk BK422.out) hb)
   have n5_ := aM (bB (g := gb423) (o := .cells #[.slice none 0 0, .slice none 0 0, .slice none 0 0] 73 (0, 0)) (bk BK423.out) hb)
   have n6_ := aM (bB (g := gb430) (o := .cells #[.slice Ao14 t424.length co14, u431001, .slice Ao13 t427.length co13] 73 (0, 0)) (bk BK430.out) hb)
   have n7_ := aM (bB (g := gb432) (o := .cells #[.int .i64 ((rd_T129 l0_1 x16_1).f0), .slice A431_1 ((rd_T129 l0_1 x16_1).f1).length c431_1] 129 (0, 0)) (bk BK432.out) hb)
   have n8_ := aM (bS (bl HB.out) hb)
   clear HO_431000 HO_431001
   clear HO_431002 BK422
   clear BK423 BK430
   clear BK432 HB
   have HO_431000 := n0_
   have HO_431001 := n1_
   have HO_431002 := n2_
   have HO435 := n3_
   have BK422 := n4_
   have BK423 := n5_
   have BK430 := n6_
   have BK432 := n7_
   have HB := n8_
   clear n0_ n1_ n2_ n3_ n4_ n5_ n6_ n7_ n8_
   (try clear hb)
   (try clear hb2)
   (try clear hk)
   (try clear hi)
   (try clear ho0)
   obtain ⟨Ao34, co34, eo34⟩ := Kd.R_slice HO435.out
   (first | subst eo34 | (injection eo34 with f1_ f2_ f3_; have f4_ := f1_.symm; have f5_ := f3_.symm; clear f1_ f2_ f3_; subst f4_; subst f5_))
   refine hK.out _ _ ⟨cI BK430.out 0, cI BK430.out 1, cI BK430.out 2, cI BK432.out 0, cI BK432.out 1⟩ (fun hHeld => ?_)
   clear hK K
   refine norm_ (a' := ?_) ?_ ?_
   rotate_left
   ·show Act.put _ (some 26) _ = _
    simp only [Act.put, sA, sZ, sS, i64_w, i32_w]
    rfl
   refine pure_ (i := 7) (N := some 27) (v := ?_) (a' := ?_) #[Y,Y,Y,Y,Y,Y,Y,Y,U,U,U,U] rfl rfl (any_of HT_.out (by kernel_rfl)) (fun _ _ _ h => h) (Or.inl ⟨by rfl, ?_⟩) ?_ ?_
   rotate_left
   ·intro w'
    go_simp
    with_reducible rfl
   rotate_left
   ·simp only [Act.put, sA, sZ, sS, i64_w, i32_w]
    rfl
   refine one_ (i := 8) (N := some 28) #[Y,Y,Y,Y,Y,Y,Y,Y,Y,U,U,U] rfl rfl (one_of HT_.out (by kernel_rfl)) (by decide) (fun K hK => ?_)
   refine value_ (w1 := ?_) (v := ?_) (by rfl) rfl ?_ ?_
   rotate_left 2
   ·go_simp
    constructor
    ·rfl
    ·rfl
   refine hK.out _ _ ⟨(bC (blk_alloc BK430.out _) 0).trans rfl, (bC (blk_alloc BK430.out _) 1).trans rfl, (bC (blk_alloc BK430.out _) 2).trans rfl, (bC (blk_alloc BK432.out _) 0).trans rfl, (bC (blk_alloc BK432.out _) 1).trans rfl⟩ (fun hHeld => ?_)
   clear hK K
   refine norm_ (a' := ?_) ?_ ?_
   rotate_left
   ·show Act.put _ (some 28) _ = _
    simp only [Act.put, sA, sZ, sS, i64_w, i32_w]
    rfl
   refine one_ (i := 9) (N := some 29) #[Y,Y,Y,Y,Y,Y,Y,Y,Y,Y,U,U] rfl rfl (one_of HT_.out (by kernel_rfl)) (by decide) (fun K hK => ?_)
   refine Kd.S_append_step k129 (w0 := w) w.heap.size (by rfl) (.tmp 21) (.tmp 28) 71 129 (.agg #[(.int .i64 0), (.slice none 0 0)]) 32 rfl Try.underlying71 info129 rfl (by decide) (by omega) u431001 x431001_1 (⟨(rd_T129 l0_1 x16_1).f0, t433⟩ : S129) [.int .i64 ((rd_T129 l0_1 x16_1).f0), .slice Ao34 t433.length co34] (fun k_ => k_ ≠ gb432) (fun k_ => some k_ = (.slice Ao34 t433.length co34 : Value).ownBlock) rfl rfl ?aP (fun k_ hk_ => ((Kd.R_mono (ok' := fun k_ => ((fun k_ => k_ ≠ gb432)) k_ ∧ some k_ ≠ (u431001 : Value).ownBlock) (Kd.R_types (Kd.R_apart' (HO435.out) (Kd.S_typed HO_431001.out) (by decide)) BK432.out (by decide)) (fun k_ hk => ⟨hk.2, hk.1.2⟩))).1 k_ hk_.symm) ?aF ?aO ?aB ?aS ?aL ?_
   (case aP => exact k129_mkM _ _ _ (⟨(rd_T129 l0_1 x16_1).f0, t433⟩ : S129) (Kd.R_mono (Kd.R_tight rfl (Kd.R_mono (ok' := fun k_ => ((fun k_ => k_ ≠ gb432)) k_ ∧ some k_ ≠ (u431001 : Value).ownBlock) (Kd.R_types (Kd.R_apart' (HO435.out) (Kd.S_typed HO_431001.out) (by decide)) BK432.out (by decide)) (fun k_ hk => ⟨hk.2, hk.1.2⟩))) (fun _ h_ => h_)))
   (case aB => exact (bl HB.out))
   (case aF => exact (fun k_ hk => Kd.freshB (g := gb432) (o := .cells #[.int .i64 ((rd_T129 l0_1 x16_1).f0), .slice A431_1 ((rd_T129 l0_1 x16_1).f1).length c431_1] 129 (0, 0)) (bk BK432.out) k_ hk))
   (case aO => exact (by (with_reducible repeat (first | apply Kd.S_alloc | apply Kd.S_drewN | apply Kd.S_drew)); exact Kd.S_mono HO_431001.out (fun k_ hk => ⟨hk.1, fun e_ => hk.2 e_⟩)))
   (case aS => exact (below_size (bl HB.out)))
   (case aL => have := LMc25.out; omega)
   intro v437 w35 ho hb hg hat
   rw [← Ny436.out] at ho
   have n0_ := aM (Kd.R_over' (kr HO_431000.out) (Kd.S_typed (by (with_reducible repeat (first | apply Kd.S_alloc | apply Kd.S_drewN | apply Kd.S_drew)); exact HO_431001.out)) (by decide) hg)
   have n1_ := aM (Kd.R_over' (kr HO_431002.out) (Kd.S_typed (by (with_reducible repeat (first | apply Kd.S_alloc | apply Kd.S_drewN | apply Kd.S_drew)); exact HO_431001.out)) (by decide) hg)
   have n2_ := aM (blk_grown (g := gb422) (o := .cells #[.slice A0_0 l0_0.length c0_0, .slice (some ad431) l0_1.length c0_1, .slice A0_2 l0_2.length c0_2] 73 (0, 0)) (bk BK422.out) hg (Kd.S_ne HO_431001.out BK422.out (by decide)))
   have n3_ := aM (blk_grown (g := gb423) (o := .cells #[.slice none 0 0, .slice none 0 0, .slice none 0 0] 73 (0, 0)) (bk BK423.out) hg (Kd.S_ne HO_431001.out BK423.out (by decide)))
   have n4_ := aM (blk_grown (g := gb430) (o := .cells #[.slice Ao14 t424.length co14, u431001, .slice Ao13 t427.length co13] 73 (0, 0)) (bk BK430.out) hg (Kd.S_ne HO_431001.out BK430.out (by decide)))
   have n5_ := aM (blk_grown (g := gb432) (o := .cells #[.int .i64 ((rd_T129 l0_1 x16_1).f0), .slice A431_1 ((rd_T129 l0_1 x16_1).f1).length c431_1] 129 (0, 0)) (bk BK432.out) hg (Kd.S_away HO_431001.out (fun _ hk => hk.1)))
   have n6_ := aM (hb)
   have n7_ := aM (ho)
   clear HO_431000 HO_431002
   clear BK422 BK423
   clear BK430 BK432
   clear HB HO_431001 HO435
   have HO_431000 := n0_
   have HO_431002 := n1_
   have BK422 := n2_
   have BK423 := n3_
   have BK430 := n4_
   have BK432 := n5_
   have HB := n6_
   have HO438 := n7_
   clear n0_ n1_ n2_ n3_ n4_ n5_ n6_ n7_
   clear ho hb hg hat
   obtain ⟨Ao36, co36, eo36⟩ := Kd.S_slice HO438.out
   (first | subst eo36 | (injection eo36 with f1_ f2_ f3_; have f4_ := f1_.symm; have f5_ := f3_.symm; clear f1_ f2_ f3_; subst f4_; subst f5_))
   refine hK.out _ _ ⟨cI BK430.out 0, cI BK430.out 1, cI BK430.out 2, cI BK432.out 0, cI BK432.out 1⟩ (fun hHeld => ?_)
   clear hK K
   refine norm_ (a' := ?_) ?_ ?_
   rotate_left
   ·show Act.put _ (some 29) _ = _
    simp only [Act.put, sA, sZ, sS, i64_w, i32_w]
    rfl
   refine pure_ (i := 10) (N := some 30) (v := ?_) (a' := ?_) #[Y,Y,Y,Y,Y,Y,Y,Y,Y,Y,Y,U] rfl rfl (any_of HT_.out (by kernel_rfl)) (fun _ _ _ h => h) (Or.inl ⟨by rfl, ?_⟩) ?_ ?_
   rotate_left
   ·intro w'
    go_simp
    with_reducible rfl
   rotate_left
   ·simp only [Act.put, sA, sZ, sS, i64_w, i32_w]
    rfl
   refine last_ (i := 11) (N := none) #[Y,Y,Y,Y,Y,Y,Y,Y,Y,Y,Y,Y] rfl rfl (one_of HT_.out (by kernel_rfl)) (by decide) (fun K hK => ?_)
   have hs37 := cI BK430.out 1
   have hfs37 := bF BK430.out 1
   have hns37_0 := NB422_430.out
   have hns37_1 := NB423_430.out
   have hns37_3 := NB432_430.out
   have hms37_0 := NB430_422.out
   have hms37_1 := NB430_423.out
   have hms37_3 := NB430_432.out
   refine skip_ (w1 := ?_) (by rfl) rfl ?_ ?_
   rotate_left
   ·go_simp
    rfl
   refine hK.out _ _ ?_
   clear hK K
   refine done_ (done_of HT_.out (by kernel_rfl)) ?_
   try go_wp2
   go_roundg k1
   case measure => have := HK1.out; omega
   case rel => exact ⟨(wrap64 (x16_1 + 1)), (y436), (.slice Ao36 y436.length co36), xE, H', ⟨by have := HK1.out; omega⟩, ⟨kr (Kd.R_mono (kF (p := ⟨gb430, 1, none⟩) (Kd.R_types HO_431000.out BK430.out (by decide)) (fun _ hk => hk.2) (.slice Ao36 y436.length co36)) (fun _ hk => trivial))⟩, ⟨by (with_reducible repeat (first | apply Kd.S_alloc | apply Kd.S_drewN | apply Kd.S_drew)); exact Kd.S_mono (Kd.S_far (p := ⟨gb430, 1, none⟩) (Kd.S_types HO438.out BK430.out (by decide)) (fun _ hk => hk.2) (.slice Ao36 y436.length co36)) (fun _ hk => trivial)⟩, ⟨kr (Kd.R_mono (kF (p := ⟨gb430, 1, none⟩) (Kd.R_types HO_431002.out BK430.out (by decide)) (fun _ hk => hk.2) (.slice Ao36 y436.length co36)) (fun _ hk => trivial))⟩, ⟨by (with_reducible repeat (first | refine blk_drewN ?_ _ | refine blk_drew ?_ | refine blk_alloc ?_ _)); refine blk_far ?_ NB422_430.out _; (with_reducible repeat (first | refine blk_drewN ?_ _ | refine blk_drew ?_ | refine blk_alloc ?_ _)); exact BK422.out⟩, ⟨by (with_reducible repeat (first | refine blk_drewN ?_ _ | refine blk_drew ?_ | refine blk_alloc ?_ _)); refine blk_far ?_ NB423_430.out _; (with_reducible repeat (first | refine blk_drewN ?_ _ | refine blk_drew ?_ | refine blk_alloc ?_ _)); exact BK423.out⟩, ⟨by (with_reducible repeat (first | refine blk_drewN ?_ _ | refine blk_drew ?_ | refine blk_alloc ?_ _)); refine blk_put (cs := #[.slice Ao14 t424.length co14, u431001, .slice Ao13 t427.length co13]) ?_ 1 _ rfl; (with_reducible repeat (first | refine blk_drewN ?_ _ | refine blk_drew ?_ | refine blk_alloc ?_ _)); exact BK430.out⟩, ⟨bl HB.out⟩⟩

end Go.Proofs.Ytjaldondohddpaa.PFnFlushed
