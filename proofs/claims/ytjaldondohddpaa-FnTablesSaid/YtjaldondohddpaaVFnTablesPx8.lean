/- Of the proof of laws.FnTables: a part. No condition beyond what its theorems say. -/
import Derived.Test.YtjaldondohddpaaVFnTablesPx0
import Derived.Test.YtjaldondohddpaaVFnTablesPx5
import Derived.Test.YtjaldondohddpaaVFnTablesPx6
import Derived.Test.YtjaldondohddpaaVFnTablesPx7
namespace Go.Proofs.Ytjaldondohddpaa.PFnTables
open Go.RowKit Go.Proofs.YtjaldondohddpaaW.PrintWords Go.Proofs.YtjaldondohddpaaW.PrintLast Go.Proofs.YtjaldondohddpaaW.PrintMore
attribute [local go_sem] max2_int min2_int max_two min_two max_three min_three max_four min_four   -- for this text's walks alone
set_option linter.unusedVariables false
set_option linter.unusedSimpArgs false

mutual
def impl_Hear.j1 : Nat → List (S40) → Int → Int → List (S40) → Int → Int → Int → Int → Int → Option ((List (S40)))
 | 0, _, _, _, _, _, _, _, _, _ => none
 | k + 1, x0, x1, x2, x10, x11, x301000, x301001, x301002, x301003 => if 0 ≤ x11 then (if x11 ≤ (x10.length : Int) then ((impl_others.f k (x10.take (x11 : Int).toNat) x1 x2).bind fun t311 => ((impl_others.f k (x10.drop (x11 : Int).toNat) x1 x2).bind fun t319 => ((impl_Heard_78.f k (([t311, (([(⟨x301000, x301001, x301002, x301003⟩ : S40)] : List (S40))), t319] : List (List (S40))))).bind fun t328 => ((impl_TableOk.f k t328).bind fun t331 => (if t331 = true then (some t328) else ((impl_Heard_75.f x0).bind fun t332 => (some t332))))))) else (none)) else (none)
def impl_Hear.l0 : Nat → List (S40) → Int → Int → List (S40) → Int → Int → Int → Int → Int → Option ((List (S40)))
 | 0, _, _, _, _, _, _, _, _, _ => none
 | k + 1, x0, x1, x2, x10, x11, x301000, x301001, x301002, x301003 => if x11 < (x10.length : Int) then (if 0 ≤ x11 then ((impl_ahead.f ((rd_T40 x10 x11).f0) ((rd_T40 x10 x11).f1) ((rd_T40 x10 x11).f2) ((rd_T40 x10 x11).f3) x301000 x301001 x301002 x301003).bind fun t305 => (if t305 = true then (impl_Hear.l0 k x0 x1 x2 x10 (wrap64 (x11 + 1)) x301000 x301001 x301002 x301003) else (impl_Hear.j1 k x0 x1 x2 x10 x11 x301000 x301001 x301002 x301003))) else (none)) else (impl_Hear.j1 k x0 x1 x2 x10 x11 x301000 x301001 x301002 x301003)
end
def impl_Hear.f (k : Nat) (l0 : List (S40)) (a1 : Int) (a2 : Int) (a3 : Int) : Option ((List (S40))) := (impl_Heard_75.f l0).bind fun t301 => (impl_Hear.l0 k l0 a1 a2 t301 0 a1 a2 a3 20)
theorem impl_Hear.mono_l : ∀ k, (∀ y0 y1 y2 y3 y4 y5 y6 y7 y8, LeO (impl_Hear.j1 k y0 y1 y2 y3 y4 y5 y6 y7 y8) (impl_Hear.j1 (k + 1) y0 y1 y2 y3 y4 y5 y6 y7 y8)) ∧ (∀ y0 y1 y2 y3 y4 y5 y6 y7 y8, LeO (impl_Hear.l0 k y0 y1 y2 y3 y4 y5 y6 y7 y8) (impl_Hear.l0 (k + 1) y0 y1 y2 y3 y4 y5 y6 y7 y8))
 | 0 => ⟨fun _ _ _ _ _ _ _ _ _ r h => by simp [impl_Hear.j1] at h, fun _ _ _ _ _ _ _ _ _ r h => by simp [impl_Hear.l0] at h⟩
 | k + 1 => by
  obtain ⟨ih0, ih1⟩ := impl_Hear.mono_l k
  refine ⟨?_, ?_⟩
  ·intro y0 y1 y2 y3 y4 y5 y6 y7 y8
   unfold impl_Hear.j1
   repeat' first
   | (with_reducible exact ih0 _ _ _ _ _ _ _ _ _)
   | (with_reducible exact ih1 _ _ _ _ _ _ _ _ _)
   | (with_reducible exact impl_Heard_78.mono _ _)
   | (with_reducible exact impl_TableOk.mono _ _)
   | (with_reducible exact impl_others.mono _ _ _ _)
   | (with_reducible exact LeO.refl _)
   | (with_reducible exact LeO.none _)
   | (with_reducible refine LeO.ite ?_ ?_)
   | (with_reducible refine LeO.bind ?_ (fun _ => ?_))
   | exact ih0 _ _ _ _ _ _ _ _ _
   | exact ih1 _ _ _ _ _ _ _ _ _
   | exact impl_Heard_78.mono _ _
   | exact impl_TableOk.mono _ _
   | exact impl_others.mono _ _ _ _
   | exact LeO.none _
   | refine LeO.ite ?_ ?_
   | refine LeO.bind ?_ (fun _ => ?_)
  ·intro y0 y1 y2 y3 y4 y5 y6 y7 y8
   unfold impl_Hear.l0
   repeat' first
   | (with_reducible exact ih0 _ _ _ _ _ _ _ _ _)
   | (with_reducible exact ih1 _ _ _ _ _ _ _ _ _)
   | (with_reducible exact impl_Heard_78.mono _ _)
   | (with_reducible exact impl_TableOk.mono _ _)
   | (with_reducible exact impl_others.mono _ _ _ _)
   | (with_reducible exact LeO.refl _)
   | (with_reducible exact LeO.none _)
   | (with_reducible refine LeO.ite ?_ ?_)
   | (with_reducible refine LeO.bind ?_ (fun _ => ?_))
   | exact ih0 _ _ _ _ _ _ _ _ _
   | exact ih1 _ _ _ _ _ _ _ _ _
   | exact impl_Heard_78.mono _ _
   | exact impl_TableOk.mono _ _
   | exact impl_others.mono _ _ _ _
   | exact LeO.none _
   | refine LeO.ite ?_ ?_
   | refine LeO.bind ?_ (fun _ => ?_)
theorem impl_Hear.mono : ∀ a0 a1 a2 a3 k, LeO (impl_Hear.f k a0 a1 a2 a3) (impl_Hear.f (k + 1) a0 a1 a2 a3) := by
 intro a0 a1 a2 a3 k
 obtain ⟨ih0, ih1⟩ := impl_Hear.mono_l k
 unfold impl_Hear.f
 repeat' first
   | (with_reducible exact ih0 _ _ _ _ _ _ _ _ _)
   | (with_reducible exact ih1 _ _ _ _ _ _ _ _ _)
   | (with_reducible exact impl_Heard_78.mono _ _)
   | (with_reducible exact impl_TableOk.mono _ _)
   | (with_reducible exact impl_others.mono _ _ _ _)
   | (with_reducible exact LeO.refl _)
   | (with_reducible exact LeO.none _)
   | (with_reducible refine LeO.ite ?_ ?_)
   | (with_reducible refine LeO.bind ?_ (fun _ => ?_))
   | exact ih0 _ _ _ _ _ _ _ _ _
   | exact ih1 _ _ _ _ _ _ _ _ _
   | exact impl_Heard_78.mono _ _
   | exact impl_TableOk.mono _ _
   | exact impl_others.mono _ _ _ _
   | exact LeO.none _
   | refine LeO.ite ?_ ?_
   | refine LeO.bind ?_ (fun _ => ?_)
def impl_Hear.T4 : Bool × List (List Nat × List Nat) := (true, [([], []), ([], []), ([1], [1]), ([0, 2], [0, 2]), ([3], [3]), ([4], [4]), ([4], [4]), ([5, 6, 4], [4, 5, 6]), ([7, 4], [4, 7]), ([4], [4]), ([8, 9, 4, 4], [4, 8, 9]), ([4, 10], [4, 10])])
def impl_Hear.B4 : List Nat := [0, 0, 2, 7, 15, 31, 31, 127, 255, 31, 1023, 2047]
theorem impl_Hear.tab4 : rtab .any (opsOf Try.f13 4) = impl_Hear.T4 := by kernel_rfl
theorem impl_Hear.bits4 : waitsOk impl_Hear.T4.2 impl_Hear.B4 = true := by kernel_rfl
def impl_Hear.T6 : Bool × List (List Nat × List Nat) := (true, [([], []), ([], []), ([0, 1], [0, 1]), ([], []), ([], []), ([2, 3, 4], [2, 3, 4]), ([], []), ([], []), ([6, 7], [6, 7]), ([], []), ([], []), ([8, 9, 10, 5], [8, 9, 10]), ([5, 11, 0, 1, 2, 3, 4, 5], [5]), ([11, 12, 0, 1, 2, 3, 4, 5, 6, 7, 8, 9, 10, 11, 12], [11])])
def impl_Hear.B6 : List Nat := [0, 0, 3, 0, 0, 31, 0, 0, 192, 0, 0, 2047, 4095, 8191]
theorem impl_Hear.tab6 : rtab .any (opsOf Try.f13 6) = impl_Hear.T6 := by kernel_rfl
theorem impl_Hear.bits6 : waitsOk impl_Hear.T6.2 impl_Hear.B6 = true := by kernel_rfl
set_option maxHeartbeats 60000000 in
set_option maxRecDepth 100000 in
theorem impl_Hear.calls (k : Nat) (A0 : Option Addr) (c0 : Nat) (l0 : List (S40)) (a1 : Int) (a2 : Int) (a3 : Int) (r : List (S40)) (w : World) (hr0 : Kd.C k40 w A0 l0.length l0) (hc0 : l0.length ≤ c0) (h : impl_Hear.f k l0 a1 a2 a3 = some r) :
  Calls Try.prog 13 #[.slice A0 l0.length c0, .int .i64 a1, .int .i64 a2, .int .i64 a3] w fun e w' => ∃ v0_ : Value, e = .returned (v0_) ∧ Kd.R k40 40 w' w.heap.size (fun _ => True) v0_ r ∧ Below w.heap.size w w' := by
 have hu40 := Try.underlying40
 have HR0 := aM hr0
 have HC0 := aM hc0
 clear hr0 hc0
 have HB := aM (Below.refl w.heap.size w)
 have H : ((impl_Heard_75.f l0).bind fun t301 => (impl_Hear.l0 k l0 a1 a2 t301 0 a1 a2 a3 20)) = some r := h
 clear h
 replace H := Option.bind_eq_some_iff.mp H
 obtain ⟨t301, A50, H⟩ := H
 replace H : (impl_Hear.l0 k l0 a1 a2 t301 0 a1 a2 a3 20) = some r := H
 have A5 := aM A50
 clear A50
 have HC6 := aM H
 clear H
 go_enter Try.func13, Try.ntmps13
 go_upto_block 0 with (first | ((with_reducible refine gate_dst (N := 9) rfl ?_); refine box_event ?hg (N := 9) ?hd (cs := #[.int .i64 0, .int .i64 0, .int .i64 0, .int .i64 0]) (t := 40) ?hr ?_; (case hd => rfl); (case hg => rfl); (case hr => first | (go_simp; done) | (go_simp; rfl)); intro gb300 hg w7 hbox hb; have n0_ := aM (bS (bl HB.out) hb); have n1_ := aM (hbox); have n2_ := aM ((by rw [hg]; exact (below_size (bl HB.out)) : w.heap.size ≤ gb300)); have n3_ := aM ((by rw [hg]; exact (below_size (bl HB.out)) : w.heap.size ≤ gb300)); clear HB; have HB := n0_; have BK300 := n1_; have GW300 := n2_; have GE300 := n3_; clear n0_ n1_ n2_ n3_; clear hb hbox hg; have hcz8_0 := cI BK300.out 0; have hcz8_1 := cI BK300.out 1; have hcz8_2 := cI BK300.out 2; have hcz8_3 := cI BK300.out 3; have hfz8_0 := bF BK300.out 0; have hfz8_1 := bF BK300.out 1; have hfz8_2 := bF BK300.out 2; have hfz8_3 := bF BK300.out 3) | ((with_reducible refine gate_callee (f := 75) rfl ?_); refine goesL_ (some 19) rfl rfl Try.func75 (by kernel_rfl) rfl #[.slice A0 l0.length c0] rfl xR ?_; (with_reducible refine (impl_Heard_75.calls _ _ l0 t301 _ ?side1 ?side2 A5.out).mono ?_); (case side1 => exact cB HR0.out (bl HB.out)); (case side2 => exact HC0.out); rintro e w9 ⟨v302, rfl, ho0, hb⟩; refine ⟨_, rfl, ?_⟩; have n0_ := aM (Kd.R_lower (Kd.R_newB ho0 (g := gb300) (o := .cells #[.int .i64 a1, .int .i64 a2, .int .i64 a3, .int .i64 20] 40 (0, 0)) (by (with_reducible repeat (first | refine blk_drewN ?_ _ | refine blk_drew ?_ | refine blk_alloc ?_ _)); refine blk_put (cs := #[.int .i64 a1, .int .i64 a2, .int .i64 a3, .int .i64 0]) ?_ 3 _ rfl; (with_reducible repeat (first | refine blk_drewN ?_ _ | refine blk_drew ?_ | refine blk_alloc ?_ _)); refine blk_put (cs := #[.int .i64 a1, .int .i64 a2, .int .i64 0, .int .i64 0]) ?_ 2 _ rfl; (with_reducible repeat (first | refine blk_drewN ?_ _ | refine blk_drew ?_ | refine blk_alloc ?_ _)); refine blk_put (cs := #[.int .i64 a1, .int .i64 0, .int .i64 0, .int .i64 0]) ?_ 1 _ rfl; (with_reducible repeat (first | refine blk_drewN ?_ _ | refine blk_drew ?_ | refine blk_alloc ?_ _)); refine blk_put (cs := #[.int .i64 0, .int .i64 0, .int .i64 0, .int .i64 0]) ?_ 0 _ rfl; (with_reducible repeat (first | refine blk_drewN ?_ _ | refine blk_drew ?_ | refine blk_alloc ?_ _)); exact BK300.out)) (below_size (bl HB.out))); have n1_ := aM (bB (g := gb300) (o := .cells #[.int .i64 a1, .int .i64 a2, .int .i64 a3, .int .i64 20] 40 (0, 0)) (by (with_reducible repeat (first | refine blk_drewN ?_ _ | refine blk_drew ?_ | refine blk_alloc ?_ _)); refine blk_put (cs := #[.int .i64 a1, .int .i64 a2, .int .i64 a3, .int .i64 0]) ?_ 3 _ rfl; (with_reducible repeat (first | refine blk_drewN ?_ _ | refine blk_drew ?_ | refine blk_alloc ?_ _)); refine blk_put (cs := #[.int .i64 a1, .int .i64 a2, .int .i64 0, .int .i64 0]) ?_ 2 _ rfl; (with_reducible repeat (first | refine blk_drewN ?_ _ | refine blk_drew ?_ | refine blk_alloc ?_ _)); refine blk_put (cs := #[.int .i64 a1, .int .i64 0, .int .i64 0, .int .i64 0]) ?_ 1 _ rfl; (with_reducible repeat (first | refine blk_drewN ?_ _ | refine blk_drew ?_ | refine blk_alloc ?_ _)); refine blk_put (cs := #[.int .i64 0, .int .i64 0, .int .i64 0, .int .i64 0]) ?_ 0 _ rfl; (with_reducible repeat (first | refine blk_drewN ?_ _ | refine blk_drew ?_ | refine blk_alloc ?_ _)); exact BK300.out) hb); have n2_ := aM (bS (bl HB.out) hb); clear BK300 HB; have HO303 := n0_; have BK300 := n1_; have HB := n2_; clear n0_ n1_ n2_; (try clear hb); (try clear ho0)))
 (try simp only [Act.put, sA, sZ, sS])
 go_cut [11] (fun v11 wc => ∃ (kq : Nat) (x11_5 : Int), v11 = .int .i64 x11_5 ∧ Aside0 (impl_Hear.j1 kq l0 a1 a2 t301 x11_5 a1 a2 a3 20 = some r) ∧ Aside0 (kq ≤ k) ∧ Aside0 (Kd.R k40 40 wc w.heap.size (fun k_ => k_ ≠ gb300) v302 t301) ∧ Aside0 (wc.heap[gb300]? = some (.cells #[.int .i64 a1, .int .i64 a2, .int .i64 a3, .int .i64 20] 40 (0, 0))) ∧ Aside0 (Below w.heap.size w wc))
 case first =>
  have H := HC6.out
  clear HC6
  have H' := aM H
  clear H
  go_wp2
  go_loopg [11] k (fun kq v11 w' => ∃ (x11_1 : Int), v11 = .int .i64 x11_1 ∧ Aside0 (impl_Hear.l0 kq l0 a1 a2 t301 x11_1 a1 a2 a3 20 = some r) ∧ Aside0 (kq ≤ k) ∧ Aside0 (Kd.R k40 40 w' w.heap.size (fun k_ => k_ ≠ gb300) v302 t301) ∧ Aside0 (w'.heap[gb300]? = some (.cells #[.int .i64 a1, .int .i64 a2, .int .i64 a3, .int .i64 20] 40 (0, 0))) ∧ Aside0 (Below w.heap.size w w'))
  case atStart => exact ⟨(0), xE, H', ⟨Nat.le_refl _⟩, ⟨kr (Kd.R_mono HO303.out (fun _ hk => hk.2))⟩, ⟨by (with_reducible repeat (first | refine blk_drewN ?_ _ | refine blk_drew ?_ | refine blk_alloc ?_ _)); exact BK300.out⟩, ⟨bl HB.out⟩⟩
  case round =>
   clear H'
   try clear c1
   try clear p2
   try clear c7
   try clear hcz8_0
   try clear hcz8_1
   try clear hcz8_2
   try clear hcz8_3
   try clear hfz8_0
   try clear hfz8_1
   try clear hfz8_2
   try clear hfz8_3
   obtain ⟨x11_1, rfl, HA, HK1, HO_10, BK300, HB⟩ := hrel
   cases gk with
   | zero => exact absurd HA.out (by simp [impl_Hear.l0])
   | succ k1 =>
    have H := HA.out
    clear HA
    simp only [impl_Hear.l0] at H
    by_cases c10 : x11_1 < (t301.length : Int)
    case neg =>
     rw [if_neg c10] at H
     have c10b0 : decide (x11_1 < (t301.length : Int)) = false := decide_eq_false c10
     clear c10
     (first | rw [c10b0] | (simp only [i64_w, i32_w]; rw [c10b0]) | skip)
     have H' := aM H
     clear H
     try go_wp2
     have n0_ := aM (Kd.R_drew HO_10.out)
     have n1_ := aM (blk_drew BK300.out)
     have n2_ := aM (below_drew1 HB.out)
     clear HO_10 BK300 HB
     have HO_10 := n0_
     have BK300 := n1_
     have HB := n2_
     clear n0_ n1_ n2_
     obtain ⟨Ao21, co21, eo21⟩ := Kd.R_slice HO_10.out
     (first | subst eo21 | (injection eo21 with f1_ f2_ f3_; have f4_ := f1_.symm; have f5_ := f3_.symm; clear f1_ f2_ f3_; subst f4_; subst f5_))
     refine start_ (n := 12) (S := fun w' => True) (ds := []) #[U,U,U,U,U,U,U,U,U,U,U,U] (by kernel_rfl) rfl rfl trivial (fun hHeld => ?_); refine with_tabW impl_Hear.tab4 impl_Hear.bits4 (fun HT_ HW_ => ?_)
     generalize wr.drew = w20 at HO_10 BK300 HB hHeld ⊢
     refine pure_ (i := 0) (N := some 20) (v := ?_) (a' := ?_) #[Y,U,U,U,U,U,U,U,U,U,U,U] rfl rfl (any_of HT_.out (by kernel_rfl)) (fun _ _ _ h => h) (Or.inl ⟨by rfl, ?_⟩) ?_ ?_
     rotate_left
     ·intro w'
      go_simp
      with_reducible rfl
     rotate_left
     ·simp only [Act.put, sA, sZ, sS, i64_w, i32_w]
      rfl
     refine pure_ (i := 1) (N := some 21) (v := ?_) (a' := ?_) #[Y,Y,U,U,U,U,U,U,U,U,U,U] rfl rfl (any_of HT_.out (by kernel_rfl)) (fun _ _ _ h => h) (Or.inl ⟨by rfl, ?_⟩) ?_ ?_
     rotate_left
     ·intro w'
      go_simp
      with_reducible rfl
     rotate_left
     ·simp only [Act.put, sA, sZ, sS, i64_w, i32_w]
      rfl
     refine pure_ (i := 2) (N := some 22) (v := ?_) (a' := ?_) #[Y,Y,Y,U,U,U,U,U,U,U,U,U] rfl rfl (any_of HT_.out (by kernel_rfl)) (fun _ _ _ h => h) (Or.inl ⟨by rfl, ?_⟩) ?_ ?_
     rotate_left
     ·intro w'
      go_simp
      with_reducible rfl
     rotate_left
     ·simp only [Act.put, sA, sZ, sS, i64_w, i32_w]
      rfl
     refine pure_ (i := 3) (N := some 23) (v := ?_) (a' := ?_) #[Y,Y,Y,Y,U,U,U,U,U,U,U,U] rfl rfl (any_of HT_.out (by kernel_rfl)) (fun _ _ _ h => h) (Or.inl ⟨by rfl, ?_⟩) ?_ ?_
     rotate_left
     ·intro w'
      go_simp
      with_reducible rfl
     rotate_left
     ·simp only [Act.put, sA, sZ, sS, i64_w, i32_w]
      rfl
     refine pure_ (i := 4) (N := some 24) (v := ?_) (a' := ?_) #[Y,Y,Y,Y,Y,U,U,U,U,U,U,U] rfl rfl (any_of HT_.out (by kernel_rfl)) (fun _ _ _ h => h) (Or.inl ⟨by rfl, ?_⟩) ?_ ?_
     rotate_left
     ·intro w'
      go_simp
      with_reducible rfl
     rotate_left
     ·simp only [Act.put, sA, sZ, sS, i64_w, i32_w]
      rfl
     refine pure_ (i := 5) (N := some 25) (v := undef) (a' := ?_) #[Y,Y,Y,Y,Y,Y,U,U,U,U,U,U] rfl rfl (any_of HT_.out (by kernel_rfl)) (fun _ _ _ h => h) (Or.inr ⟨by rfl, rfl⟩) ?_ ?_
     rotate_left
     ·simp only [Act.put, sA, sZ, sS, i64_w, i32_w]
      rfl
     refine pure_ (i := 6) (N := some 26) (v := undef) (a' := ?_) #[Y,Y,Y,Y,Y,Y,Y,U,U,U,U,U] rfl rfl (any_of HT_.out (by kernel_rfl)) (fun _ _ _ h => h) (Or.inr ⟨by rfl, rfl⟩) ?_ ?_
     rotate_left
     ·simp only [Act.put, sA, sZ, sS, i64_w, i32_w]
      rfl
     refine pure_ (i := 7) (N := some 27) (v := undef) (a' := ?_) #[Y,Y,Y,Y,Y,Y,Y,Y,U,U,U,U] rfl rfl (any_of HT_.out (by kernel_rfl)) (fun _ _ _ h => h) (Or.inr ⟨by rfl, rfl⟩) ?_ ?_
     rotate_left
     ·simp only [Act.put, sA, sZ, sS, i64_w, i32_w]
      rfl
     refine pure_ (i := 8) (N := some 28) (v := undef) (a' := ?_) #[Y,Y,Y,Y,Y,Y,Y,Y,Y,U,U,U] rfl rfl (any_of HT_.out (by kernel_rfl)) (fun _ _ _ h => h) (Or.inr ⟨by rfl, rfl⟩) ?_ ?_
     rotate_left
     ·simp only [Act.put, sA, sZ, sS, i64_w, i32_w]
      rfl
     refine pure_ (i := 9) (N := some 29) (v := undef) (a' := ?_) #[Y,Y,Y,Y,Y,Y,Y,Y,Y,Y,U,U] rfl rfl (any_of HT_.out (by kernel_rfl)) (fun _ _ _ h => h) (Or.inr ⟨by rfl, rfl⟩) ?_ ?_
     rotate_left
     ·simp only [Act.put, sA, sZ, sS, i64_w, i32_w]
      rfl
     refine pure_ (i := 10) (N := some 30) (v := undef) (a' := ?_) #[Y,Y,Y,Y,Y,Y,Y,Y,Y,Y,Y,U] rfl rfl (any_of HT_.out (by kernel_rfl)) (fun _ _ _ h => h) (Or.inr ⟨by rfl, rfl⟩) ?_ ?_
     rotate_left
     ·simp only [Act.put, sA, sZ, sS, i64_w, i32_w]
      rfl
     refine pure_ (i := 11) (N := some 31) (v := ?_) (a' := ?_) #[Y,Y,Y,Y,Y,Y,Y,Y,Y,Y,Y,Y] rfl rfl (any_of HT_.out (by kernel_rfl)) (fun _ _ _ h => h) (Or.inl ⟨by rfl, ?_⟩) ?_ ?_
     rotate_left
     ·intro w'
      go_simp
      with_reducible rfl
     rotate_left
     ·simp only [Act.put, sA, sZ, sS, i64_w, i32_w]
      rfl
     refine done_ (done_of HT_.out (by kernel_rfl)) ?_
     try go_wp2
     go_meet
     case rel => exact ⟨_, (x11_1), xE, H', ⟨by have := HK1.out; first | omega | exact Nat.le_refl _⟩, ⟨kr HO_10.out⟩, ⟨by (with_reducible repeat (first | refine blk_drewN ?_ _ | refine blk_drew ?_ | refine blk_alloc ?_ _)); exact BK300.out⟩, ⟨bl HB.out⟩⟩
    rw [if_pos c10] at H
    have c10b0 : decide (x11_1 < (t301.length : Int)) = true := decide_eq_true c10
    clear c10
    (first | rw [c10b0] | (simp only [i64_w, i32_w]; rw [c10b0]) | skip)
    by_cases c11 : 0 ≤ x11_1
    case neg =>
     rw [if_neg c11] at H
     exact absurd H (by simp)
    rw [if_pos c11] at H
    have c11b0 : decide (0 ≤ x11_1) = true := decide_eq_true c11
    clear c11
    replace H := Option.bind_eq_some_iff.mp H
    obtain ⟨t305, A120, H⟩ := H
    replace H : (if t305 = true then (impl_Hear.l0 k1 l0 a1 a2 t301 (wrap64 (x11_1 + 1)) a1 a2 a3 20) else (impl_Hear.j1 k1 l0 a1 a2 t301 x11_1 a1 a2 a3 20)) = some r := H
    have A12 := aM A120
    clear A120
    by_cases c13 : t305 = true
    case pos =>
     subst c13
     have H1 : (impl_Hear.l0 k1 l0 a1 a2 t301 (wrap64 (x11_1 + 1)) a1 a2 a3 20) = some r := by rw [if_pos rfl] at H; exact H
     clear H
     have H := H1
     clear H1
     have H' := aM H
     clear H
     try go_wp2
     have n0_ := aM (Kd.R_drew HO_10.out)
     have n1_ := aM (blk_drew BK300.out)
     have n2_ := aM (below_drew1 HB.out)
     clear HO_10 BK300 HB
     have HO_10 := n0_
     have BK300 := n1_
     have HB := n2_
     clear n0_ n1_ n2_
     obtain ⟨Ao15, co15, eo15⟩ := Kd.R_slice HO_10.out
     (first | subst eo15 | (injection eo15 with f1_ f2_ f3_; have f4_ := f1_.symm; have f5_ := f3_.symm; clear f1_ f2_ f3_; subst f4_; subst f5_))
     have p304 : 0 ≤ (x11_1 : Int) := of_decide_eq_true (by first | (with_reducible assumption) | assumption)
     have q304 : x11_1 < (t301.length : Int) := of_decide_eq_true (by first | (with_reducible assumption) | assumption)
     obtain ⟨ad304, e304, hx304_0, hx304_1, hx304_2, hx304_3⟩ := at_T40 (Kd.R_reads' HO_10.out).2.2 x11_1 p304 q304
     cases e304
     replace p304 := eq_true p304
     replace q304 := eq_true q304
     refine start_ (n := 12) (S := fun w' => w'.cell? ⟨gb300, 0, none⟩ = some (.int .i64 a1) ∧ w'.cell? ⟨gb300, 1, none⟩ = some (.int .i64 a2) ∧ w'.cell? ⟨gb300, 2, none⟩ = some (.int .i64 a3) ∧ w'.cell? ⟨gb300, 3, none⟩ = some (.int .i64 20) ∧ w'.cell? (ad304.add ((x11_1).toNat * 4)) = some (.int .i64 ((rd_T40 t301 x11_1).f0)) ∧ w'.cell? ⟨(ad304.add ((x11_1).toNat * 4)).block, (ad304.add ((x11_1).toNat * 4)).off + 1, none⟩ = some (.int .i64 ((rd_T40 t301 x11_1).f1)) ∧ w'.cell? ⟨(ad304.add ((x11_1).toNat * 4)).block, (ad304.add ((x11_1).toNat * 4)).off + 2, none⟩ = some (.int .i64 ((rd_T40 t301 x11_1).f2)) ∧ w'.cell? ⟨(ad304.add ((x11_1).toNat * 4)).block, (ad304.add ((x11_1).toNat * 4)).off + 3, none⟩ = some (.int .i64 ((rd_T40 t301 x11_1).f3))) (ds := []) #[U,U,U,U,U,U,U,U,U,U,U,U] (by kernel_rfl) rfl rfl ⟨cI BK300.out 0, cI BK300.out 1, cI BK300.out 2, cI BK300.out 3, hx304_0, hx304_1, hx304_2, hx304_3⟩ (fun hHeld => ?_); refine with_tabW impl_Hear.tab4 impl_Hear.bits4 (fun HT_ HW_ => ?_)
     generalize wr.drew = w14 at HO_10 BK300 HB hx304_0 hx304_1 hx304_2 hx304_3 hHeld ⊢
     refine pure_ (i := 0) (N := some 20) (v := ?_) (a' := ?_) #[Y,U,U,U,U,U,U,U,U,U,U,U] rfl rfl (any_of HT_.out (by kernel_rfl)) (fun _ _ _ h => h) (Or.inl ⟨by rfl, ?_⟩) ?_ ?_
     rotate_left
     ·intro w'
      go_simp
      with_reducible rfl
     rotate_left
     ·simp only [Act.put, sA, sZ, sS, i64_w, i32_w]
      rfl
     refine pure_ (i := 1) (N := some 21) (v := ?_) (a' := ?_) #[Y,Y,U,U,U,U,U,U,U,U,U,U] rfl rfl (any_of HT_.out (by kernel_rfl)) (fun _ _ _ h => h) (Or.inl ⟨by rfl, ?_⟩) ?_ ?_
     rotate_left
     ·intro w'
      go_simp
      with_reducible rfl
     rotate_left
     ·simp only [Act.put, sA, sZ, sS, i64_w, i32_w]
      rfl
     refine pure_ (i := 2) (N := some 22) (v := ?_) (a' := ?_) #[Y,Y,Y,U,U,U,U,U,U,U,U,U] rfl rfl (any_of HT_.out (by kernel_rfl)) (fun _ _ _ h => h) (Or.inl ⟨by rfl, ?_⟩) ?_ ?_
     rotate_left
     ·intro w'
      go_simp
      with_reducible rfl
     rotate_left
     ·simp only [Act.put, sA, sZ, sS, i64_w, i32_w]
      rfl
     refine pure_ (i := 3) (N := some 23) (v := ?_) (a' := ?_) #[Y,Y,Y,Y,U,U,U,U,U,U,U,U] rfl rfl (any_of HT_.out (by kernel_rfl)) (fun _ _ _ h => h) (Or.inl ⟨by rfl, ?_⟩) ?_ ?_
     rotate_left
     ·intro w'
      go_simp
      with_reducible rfl
     rotate_left
     ·simp only [Act.put, sA, sZ, sS, i64_w, i32_w]
      rfl
     refine pure_ (i := 4) (N := some 24) (v := ?_) (a' := ?_) #[Y,Y,Y,Y,Y,U,U,U,U,U,U,U] rfl rfl (any_of HT_.out (by kernel_rfl)) (fun _ _ _ h => h) (Or.inl ⟨by rfl, ?_⟩) ?_ ?_
     rotate_left
     ·intro w'
      go_simp
      with_reducible rfl
     rotate_left
     ·simp only [Act.put, sA, sZ, sS, i64_w, i32_w]
      rfl
     refine pure_ (i := 5) (N := some 25) (v := ?_) (a' := ?_) #[Y,Y,Y,Y,Y,Y,U,U,U,U,U,U] rfl rfl (any_of HT_.out (by kernel_rfl)) (fun _ _ _ h => h) (Or.inl ⟨by rfl, ?_⟩) ?_ ?_
     rotate_left
     ·intro w'
      go_simp
      with_reducible rfl
     rotate_left
     ·simp only [Act.put, sA, sZ, sS, i64_w, i32_w]
      rfl
     refine pure_ (i := 6) (N := some 26) (v := ?_) (a' := ?_) #[Y,Y,Y,Y,Y,Y,Y,U,U,U,U,U] rfl rfl (any_of HT_.out (by kernel_rfl)) (fun _ _ _ h => h) (Or.inl ⟨by rfl, ?_⟩) ?_ ?_
     rotate_left
     ·intro w'
      go_simp
      with_reducible rfl
     rotate_left
     ·simp only [Act.put, sA, sZ, sS, i64_w, i32_w]
      rfl
     refine pure_ (i := 7) (N := some 27) (v := ?_) (a' := ?_) #[Y,Y,Y,Y,Y,Y,Y,Y,U,U,U,U] rfl rfl (any_of HT_.out (by kernel_rfl)) (fun _ _ _ h => h) (Or.inl ⟨by rfl, ?_⟩) ?_ ?_
     rotate_left
     ·intro w'
      go_simp
      with_reducible rfl
     rotate_left
     ·simp only [Act.put, sA, sZ, sS, i64_w, i32_w]
      rfl
     refine take_ (i := 8) (N := some 28) (v := ?_) (a' := ?_) #[Y,Y,Y,Y,Y,Y,Y,Y,Y,U,U,U] rfl rfl (take_ofW HT_.out HW_.out (by kernel_rfl)) (fun _ _ _ h => h) (Or.inl ⟨by rfl, ?_⟩) hHeld ?_ ?_
     rotate_left
     ·rintro w' ⟨s0, s1, s2, s3, s4, s5, s6, s7⟩
      go_simp
      with_reducible rfl
     rotate_left
     ·simp only [Act.put, sA, sZ, sS, i64_w, i32_w]
      rfl
     refine take_ (i := 9) (N := some 29) (v := ?_) (a' := ?_) #[Y,Y,Y,Y,Y,Y,Y,Y,Y,Y,U,U] rfl rfl (take_ofW HT_.out HW_.out (by kernel_rfl)) (fun _ _ _ h => h) (Or.inl ⟨by rfl, ?_⟩) hHeld ?_ ?_
     rotate_left
     ·rintro w' ⟨s0, s1, s2, s3, s4, s5, s6, s7⟩
      go_simp
      with_reducible rfl
     rotate_left
     ·simp only [Act.put, sA, sZ, sS, i64_w, i32_w]
      rfl
     refine one_ (i := 10) (N := some 30) #[Y,Y,Y,Y,Y,Y,Y,Y,Y,Y,Y,U] rfl rfl (one_of HT_.out (by kernel_rfl)) (by decide) (fun K hK => ?_)
     refine goes_ Try.func76 (by kernel_rfl) rfl #[.agg #[.int .i64 ((rd_T40 t301 x11_1).f0), .int .i64 ((rd_T40 t301 x11_1).f1), .int .i64 ((rd_T40 t301 x11_1).f2), .int .i64 ((rd_T40 t301 x11_1).f3)], .agg #[.int .i64 a1, .int .i64 a2, .int .i64 a3, .int .i64 20]] (by rfl) rfl rfl xR ?_
     with_reducible refine (impl_ahead.calls ((rd_T40 t301 x11_1).f0) ((rd_T40 t301 x11_1).f1) ((rd_T40 t301 x11_1).f2) ((rd_T40 t301 x11_1).f3) a1 a2 a3 20 true _ A12.out).mono ?_
     rintro e w16 ⟨rfl, hb⟩
     have HS4_ := (hb.cell (World.block_lt_of_cell? _ _ (hHeld.2.2.2.2.1))).trans (hHeld.2.2.2.2.1)
     have HS5_ := (hb.cell (World.block_lt_of_cell? _ _ (hHeld.2.2.2.2.2.1))).trans (hHeld.2.2.2.2.2.1)
     have HS6_ := (hb.cell (World.block_lt_of_cell? _ _ (hHeld.2.2.2.2.2.2.1))).trans (hHeld.2.2.2.2.2.2.1)
     have HS7_ := (hb.cell (World.block_lt_of_cell? _ _ (hHeld.2.2.2.2.2.2.2))).trans (hHeld.2.2.2.2.2.2.2)
     refine ⟨_, rfl, ?_⟩
     have n0_ := aM (kB (kr HO_10.out) hb)
     have n1_ := aM (bB (g := gb300) (o := .cells #[.int .i64 a1, .int .i64 a2, .int .i64 a3, .int .i64 20] 40 (0, 0)) (bk BK300.out) hb)
     have n2_ := aM (bS (bl HB.out) hb)
     clear HO_10 BK300 HB
     have HO_10 := n0_
     have BK300 := n1_
     have HB := n2_
     clear n0_ n1_ n2_
     (try clear hb)
     (try clear hb2)
     (try clear hk)
     (try clear hi)
     refine hK.out _ _ ⟨cI BK300.out 0, cI BK300.out 1, cI BK300.out 2, cI BK300.out 3, HS4_, HS5_, HS6_, HS7_⟩ (fun hHeld => ?_)
     clear hK K
     refine norm_ (a' := ?_) ?_ ?_
     rotate_left
     ·show Act.put _ (some 30) _ = _
      simp only [Act.put, sA, sZ, sS, i64_w, i32_w]
      rfl
     refine pure_ (i := 11) (N := some 31) (v := ?_) (a' := ?_) #[Y,Y,Y,Y,Y,Y,Y,Y,Y,Y,Y,Y] rfl rfl (any_of HT_.out (by kernel_rfl)) (fun _ _ _ h => h) (Or.inl ⟨by rfl, ?_⟩) ?_ ?_
     rotate_left
     ·intro w'
      go_simp
      with_reducible rfl
     rotate_left
     ·simp only [Act.put, sA, sZ, sS, i64_w, i32_w]
      rfl
     refine done_ (done_of HT_.out (by kernel_rfl)) ?_
     try go_wp2
     go_roundg k1
     case measure => have := HK1.out; omega
     case rel => exact ⟨(wrap64 (x11_1 + 1)), xE, H', ⟨by have := HK1.out; omega⟩, ⟨kr HO_10.out⟩, ⟨by (with_reducible repeat (first | refine blk_drewN ?_ _ | refine blk_drew ?_ | refine blk_alloc ?_ _)); exact BK300.out⟩, ⟨bl HB.out⟩⟩
    replace c13 := Bool.eq_false_iff.mpr c13
    subst c13
    have H1 : (impl_Hear.j1 k1 l0 a1 a2 t301 x11_1 a1 a2 a3 20) = some r := by rw [if_neg (show ¬ (false = true) by decide)] at H; exact H
    clear H
    have H := H1
    clear H1
    have H' := aM H
    clear H
    try go_wp2
    have n0_ := aM (Kd.R_drew HO_10.out)
    have n1_ := aM (blk_drew BK300.out)
    have n2_ := aM (below_drew1 HB.out)
    clear HO_10 BK300 HB
    have HO_10 := n0_
    have BK300 := n1_
    have HB := n2_
    clear n0_ n1_ n2_
    obtain ⟨Ao18, co18, eo18⟩ := Kd.R_slice HO_10.out
    (first | subst eo18 | (injection eo18 with f1_ f2_ f3_; have f4_ := f1_.symm; have f5_ := f3_.symm; clear f1_ f2_ f3_; subst f4_; subst f5_))
    have p304 : 0 ≤ (x11_1 : Int) := of_decide_eq_true (by first | (with_reducible assumption) | assumption)
    have q304 : x11_1 < (t301.length : Int) := of_decide_eq_true (by first | (with_reducible assumption) | assumption)
    obtain ⟨ad304, e304, hx304_0, hx304_1, hx304_2, hx304_3⟩ := at_T40 (Kd.R_reads' HO_10.out).2.2 x11_1 p304 q304
    cases e304
    replace p304 := eq_true p304
    replace q304 := eq_true q304
    refine start_ (n := 12) (S := fun w' => w'.cell? ⟨gb300, 0, none⟩ = some (.int .i64 a1) ∧ w'.cell? ⟨gb300, 1, none⟩ = some (.int .i64 a2) ∧ w'.cell? ⟨gb300, 2, none⟩ = some (.int .i64 a3) ∧ w'.cell? ⟨gb300, 3, none⟩ = some (.int .i64 20) ∧ w'.cell? (ad304.add ((x11_1).toNat * 4)) = some (.int .i64 ((rd_T40 t301 x11_1).f0)) ∧ w'.cell? ⟨(ad304.add ((x11_1).toNat * 4)).block, (ad304.add ((x11_1).toNat * 4)).off + 1, none⟩ = some (.int .i64 ((rd_T40 t301 x11_1).f1)) ∧ w'.cell? ⟨(ad304.add ((x11_1).toNat * 4)).block, (ad304.add ((x11_1).toNat * 4)).off + 2, none⟩ = some (.int .i64 ((rd_T40 t301 x11_1).f2)) ∧ w'.cell? ⟨(ad304.add ((x11_1).toNat * 4)).block, (ad304.add ((x11_1).toNat * 4)).off + 3, none⟩ = some (.int .i64 ((rd_T40 t301 x11_1).f3))) (ds := []) #[U,U,U,U,U,U,U,U,U,U,U,U] (by kernel_rfl) rfl rfl ⟨cI BK300.out 0, cI BK300.out 1, cI BK300.out 2, cI BK300.out 3, hx304_0, hx304_1, hx304_2, hx304_3⟩ (fun hHeld => ?_); refine with_tabW impl_Hear.tab4 impl_Hear.bits4 (fun HT_ HW_ => ?_)
    generalize wr.drew = w17 at HO_10 BK300 HB hx304_0 hx304_1 hx304_2 hx304_3 hHeld ⊢
    refine pure_ (i := 0) (N := some 20) (v := ?_) (a' := ?_) #[Y,U,U,U,U,U,U,U,U,U,U,U] rfl rfl (any_of HT_.out (by kernel_rfl)) (fun _ _ _ h => h) (Or.inl ⟨by rfl, ?_⟩) ?_ ?_
    rotate_left
    ·intro w'
     go_simp
     with_reducible rfl
    rotate_left
    ·simp only [Act.put, sA, sZ, sS, i64_w, i32_w]
     rfl
    refine pure_ (i := 1) (N := some 21) (v := ?_) (a' := ?_) #[Y,Y,U,U,U,U,U,U,U,U,U,U] rfl rfl (any_of HT_.out (by kernel_rfl)) (fun _ _ _ h => h) (Or.inl ⟨by rfl, ?_⟩) ?_ ?_
    rotate_left
    ·intro w'
     go_simp
     with_reducible rfl
    rotate_left
    ·simp only [Act.put, sA, sZ, sS, i64_w, i32_w]
     rfl
    refine pure_ (i := 2) (N := some 22) (v := ?_) (a' := ?_) #[Y,Y,Y,U,U,U,U,U,U,U,U,U] rfl rfl (any_of HT_.out (by kernel_rfl)) (fun _ _ _ h => h) (Or.inl ⟨by rfl, ?_⟩) ?_ ?_
    rotate_left
    ·intro w'
     go_simp
     with_reducible rfl
    rotate_left
    ·simp only [Act.put, sA, sZ, sS, i64_w, i32_w]
     rfl
    refine pure_ (i := 3) (N := some 23) (v := ?_) (a' := ?_) #[Y,Y,Y,Y,U,U,U,U,U,U,U,U] rfl rfl (any_of HT_.out (by kernel_rfl)) (fun _ _ _ h => h) (Or.inl ⟨by rfl, ?_⟩) ?_ ?_
    rotate_left
    ·intro w'
     go_simp
     with_reducible rfl
    rotate_left
    ·simp only [Act.put, sA, sZ, sS, i64_w, i32_w]
     rfl
    refine pure_ (i := 4) (N := some 24) (v := ?_) (a' := ?_) #[Y,Y,Y,Y,Y,U,U,U,U,U,U,U] rfl rfl (any_of HT_.out (by kernel_rfl)) (fun _ _ _ h => h) (Or.inl ⟨by rfl, ?_⟩) ?_ ?_
    rotate_left
    ·intro w'
     go_simp
     with_reducible rfl
    rotate_left
    ·simp only [Act.put, sA, sZ, sS, i64_w, i32_w]
     rfl
    refine pure_ (i := 5) (N := some 25) (v := ?_) (a' := ?_) #[Y,Y,Y,Y,Y,Y,U,U,U,U,U,U] rfl rfl (any_of HT_.out (by kernel_rfl)) (fun _ _ _ h => h) (Or.inl ⟨by rfl, ?_⟩) ?_ ?_
    rotate_left
    ·intro w'
     go_simp
     with_reducible rfl
    rotate_left
    ·simp only [Act.put, sA, sZ, sS, i64_w, i32_w]
     rfl
    refine pure_ (i := 6) (N := some 26) (v := ?_) (a' := ?_) #[Y,Y,Y,Y,Y,Y,Y,U,U,U,U,U] rfl rfl (any_of HT_.out (by kernel_rfl)) (fun _ _ _ h => h) (Or.inl ⟨by rfl, ?_⟩) ?_ ?_
    rotate_left
    ·intro w'
     go_simp
     with_reducible rfl
    rotate_left
    ·simp only [Act.put, sA, sZ, sS, i64_w, i32_w]
     rfl
    refine pure_ (i := 7) (N := some 27) (v := ?_) (a' := ?_) #[Y,Y,Y,Y,Y,Y,Y,Y,U,U,U,U] rfl rfl (any_of HT_.out (by kernel_rfl)) (fun _ _ _ h => h) (Or.inl ⟨by rfl, ?_⟩) ?_ ?_
    rotate_left
    ·intro w'
     go_simp
     with_reducible rfl
    rotate_left
    ·simp only [Act.put, sA, sZ, sS, i64_w, i32_w]
     rfl
    refine take_ (i := 8) (N := some 28) (v := ?_) (a' := ?_) #[Y,Y,Y,Y,Y,Y,Y,Y,Y,U,U,U] rfl rfl (take_ofW HT_.out HW_.out (by kernel_rfl)) (fun _ _ _ h => h) (Or.inl ⟨by rfl, ?_⟩) hHeld ?_ ?_
    rotate_left
    ·rintro w' ⟨s0, s1, s2, s3, s4, s5, s6, s7⟩
     go_simp
     with_reducible rfl
    rotate_left
    ·simp only [Act.put, sA, sZ, sS, i64_w, i32_w]
     rfl
    refine take_ (i := 9) (N := some 29) (v := ?_) (a' := ?_) #[Y,Y,Y,Y,Y,Y,Y,Y,Y,Y,U,U] rfl rfl (take_ofW HT_.out HW_.out (by kernel_rfl)) (fun _ _ _ h => h) (Or.inl ⟨by rfl, ?_⟩) hHeld ?_ ?_
    rotate_left
    ·rintro w' ⟨s0, s1, s2, s3, s4, s5, s6, s7⟩
     go_simp
     with_reducible rfl
    rotate_left
    ·simp only [Act.put, sA, sZ, sS, i64_w, i32_w]
     rfl
    refine one_ (i := 10) (N := some 30) #[Y,Y,Y,Y,Y,Y,Y,Y,Y,Y,Y,U] rfl rfl (one_of HT_.out (by kernel_rfl)) (by decide) (fun K hK => ?_)
    refine goes_ Try.func76 (by kernel_rfl) rfl #[.agg #[.int .i64 ((rd_T40 t301 x11_1).f0), .int .i64 ((rd_T40 t301 x11_1).f1), .int .i64 ((rd_T40 t301 x11_1).f2), .int .i64 ((rd_T40 t301 x11_1).f3)], .agg #[.int .i64 a1, .int .i64 a2, .int .i64 a3, .int .i64 20]] (by rfl) rfl rfl xR ?_
    with_reducible refine (impl_ahead.calls ((rd_T40 t301 x11_1).f0) ((rd_T40 t301 x11_1).f1) ((rd_T40 t301 x11_1).f2) ((rd_T40 t301 x11_1).f3) a1 a2 a3 20 false _ A12.out).mono ?_
    rintro e w19 ⟨rfl, hb⟩
    have HS4_ := (hb.cell (World.block_lt_of_cell? _ _ (hHeld.2.2.2.2.1))).trans (hHeld.2.2.2.2.1)
    have HS5_ := (hb.cell (World.block_lt_of_cell? _ _ (hHeld.2.2.2.2.2.1))).trans (hHeld.2.2.2.2.2.1)
    have HS6_ := (hb.cell (World.block_lt_of_cell? _ _ (hHeld.2.2.2.2.2.2.1))).trans (hHeld.2.2.2.2.2.2.1)
    have HS7_ := (hb.cell (World.block_lt_of_cell? _ _ (hHeld.2.2.2.2.2.2.2))).trans (hHeld.2.2.2.2.2.2.2)
    refine ⟨_, rfl, ?_⟩
    have n0_ := aM (kB (kr HO_10.out) hb)
    have n1_ := aM (bB (g := gb300) (o := .cells #[.int .i64 a1, .int .i64 a2, .int .i64 a3, .int .i64 20] 40 (0, 0)) (bk BK300.out) hb)
    have n2_ := aM (bS (bl HB.out) hb)
    clear HO_10 BK300 HB
    have HO_10 := n0_
    have BK300 := n1_
    have HB := n2_
    clear n0_ n1_ n2_
    (try clear hb)
    (try clear hb2)
    (try clear hk)
    (try clear hi)
    refine hK.out _ _ ⟨cI BK300.out 0, cI BK300.out 1, cI BK300.out 2, cI BK300.out 3, HS4_, HS5_, HS6_, HS7_⟩ (fun hHeld => ?_)
    clear hK K
    refine norm_ (a' := ?_) ?_ ?_
    rotate_left
    ·show Act.put _ (some 30) _ = _
     simp only [Act.put, sA, sZ, sS, i64_w, i32_w]
     rfl
    refine pure_ (i := 11) (N := some 31) (v := ?_) (a' := ?_) #[Y,Y,Y,Y,Y,Y,Y,Y,Y,Y,Y,Y] rfl rfl (any_of HT_.out (by kernel_rfl)) (fun _ _ _ h => h) (Or.inl ⟨by rfl, ?_⟩) ?_ ?_
    rotate_left
    ·intro w'
     go_simp
     with_reducible rfl
    rotate_left
    ·simp only [Act.put, sA, sZ, sS, i64_w, i32_w]
     rfl
    refine done_ (done_of HT_.out (by kernel_rfl)) ?_
    try go_wp2
    go_meet
    case rel => exact ⟨_, (x11_1), xE, H', ⟨by have := HK1.out; first | omega | exact Nat.le_refl _⟩, ⟨kr HO_10.out⟩, ⟨by (with_reducible repeat (first | refine blk_drewN ?_ _ | refine blk_drew ?_ | refine blk_alloc ?_ _)); exact BK300.out⟩, ⟨bl HB.out⟩⟩
 case rest =>
  clear HC6
  try clear c1
  try clear p2
  try clear p3
  try clear q3
  try clear hx3
  try clear p6
  try clear c7
  try clear c10
  try clear c10b0
  try clear c11
  try clear c11b0
  try clear c13
  try clear hcz8_0
  try clear hcz8_1
  try clear hcz8_2
  try clear hcz8_3
  try clear hfz8_0
  try clear hfz8_1
  try clear hfz8_2
  try clear hfz8_3
  try clear hx304_0
  try clear hx304_1
  try clear hx304_2
  try clear hx304_3
  try clear p2
  try clear p304
  try clear q304
  obtain ⟨kq, x11_5, rfl, HA, HJ5, HO_10, BK300, HB⟩ := hcut
  cases kq with
  | zero => exact absurd HA.out (by simp [impl_Hear.j1])
  | succ kj5 =>
   have H := HA.out
   clear HA
   simp only [impl_Hear.j1] at H
   by_cases c22 : 0 ≤ x11_5
   case neg =>
    rw [if_neg c22] at H
    exact absurd H (by simp)
   rw [if_pos c22] at H
   have c22b0 := eq_true c22
   have c22b1 : decide (0 ≤ x11_5) = true := decide_eq_true c22
   clear c22
   by_cases c23 : x11_5 ≤ (t301.length : Int)
   case neg =>
    rw [if_neg c23] at H
    exact absurd H (by simp)
   rw [if_pos c23] at H
   have c23b0 := eq_true c23
   have c23b1 : decide (x11_5 ≤ (t301.length : Int)) = true := decide_eq_true c23
   clear c23
   obtain ⟨y306, hy306⟩ : ∃ y_ : List (S40), y_ = (t301.take (x11_5 : Int).toNat) := ⟨_, rfl⟩
   replace H : ((impl_others.f kj5 y306 a1 a2).bind fun t311 => ((impl_others.f kj5 (t301.drop (x11_5 : Int).toNat) a1 a2).bind fun t319 => ((impl_Heard_78.f kj5 (([t311, (([(⟨a1, a2, a3, 20⟩ : S40)] : List (S40))), t319] : List (List (S40))))).bind fun t328 => ((impl_TableOk.f kj5 t328).bind fun t331 => (if t331 = true then (some t328) else ((impl_Heard_75.f l0).bind fun t332 => (some t332))))))) = some r := by first | (rw [hy306]; with_reducible exact H) | (have H2_ := (Option.bind_some _ _).symm.trans H; rw [hy306]; with_reducible exact H2_) | (have H2_ := (Option.bind_some _ _).symm.trans H; with_reducible exact H2_) | with_reducible exact H | (rw [hy306]; exact H) | exact H
   have Ny306 := aM hy306
   clear hy306
   replace H := Option.bind_eq_some_iff.mp H
   obtain ⟨t311, A240, H⟩ := H
   replace H : ((impl_others.f kj5 (t301.drop (x11_5 : Int).toNat) a1 a2).bind fun t319 => ((impl_Heard_78.f kj5 (([t311, (([(⟨a1, a2, a3, 20⟩ : S40)] : List (S40))), t319] : List (List (S40))))).bind fun t328 => ((impl_TableOk.f kj5 t328).bind fun t331 => (if t331 = true then (some t328) else ((impl_Heard_75.f l0).bind fun t332 => (some t332)))))) = some r := H
   have A24 := aM A240
   clear A240
   have c25b0 := eq_true (of_decide_eq_true (by first | (with_reducible assumption) | assumption) : 0 ≤ x11_5)
   have c26b0 := eq_true (of_decide_eq_true (by first | (with_reducible assumption) | assumption) : x11_5 ≤ (t301.length : Int))
   obtain ⟨y314, hy314⟩ : ∃ y_ : List (S40), y_ = (t301.drop (x11_5 : Int).toNat) := ⟨_, rfl⟩
   replace H : ((impl_others.f kj5 y314 a1 a2).bind fun t319 => ((impl_Heard_78.f kj5 (([t311, (([(⟨a1, a2, a3, 20⟩ : S40)] : List (S40))), t319] : List (List (S40))))).bind fun t328 => ((impl_TableOk.f kj5 t328).bind fun t331 => (if t331 = true then (some t328) else ((impl_Heard_75.f l0).bind fun t332 => (some t332)))))) = some r := by first | (rw [hy314]; with_reducible exact H) | (have H2_ := (Option.bind_some _ _).symm.trans H; rw [hy314]; with_reducible exact H2_) | (have H2_ := (Option.bind_some _ _).symm.trans H; with_reducible exact H2_) | with_reducible exact H | (rw [hy314]; exact H) | exact H
   have Ny314 := aM hy314
   clear hy314
   replace H := Option.bind_eq_some_iff.mp H
   obtain ⟨t319, A270, H⟩ := H
   replace H : ((impl_Heard_78.f kj5 (([t311, (([(⟨a1, a2, a3, 20⟩ : S40)] : List (S40))), t319] : List (List (S40))))).bind fun t328 => ((impl_TableOk.f kj5 t328).bind fun t331 => (if t331 = true then (some t328) else ((impl_Heard_75.f l0).bind fun t332 => (some t332))))) = some r := H
   have A27 := aM A270
   clear A270
   obtain ⟨y322, hy322⟩ : ∃ y_ : List (S40), y_ = (([(⟨a1, a2, a3, 20⟩ : S40)] : List (S40))) := ⟨_, rfl⟩
   replace H : ((impl_Heard_78.f kj5 (([t311, y322, t319] : List (List (S40))))).bind fun t328 => ((impl_TableOk.f kj5 t328).bind fun t331 => (if t331 = true then (some t328) else ((impl_Heard_75.f l0).bind fun t332 => (some t332))))) = some r := by first | (rw [hy322]; with_reducible exact H) | (have H2_ := (Option.bind_some _ _).symm.trans H; rw [hy322]; with_reducible exact H2_) | (have H2_ := (Option.bind_some _ _).symm.trans H; with_reducible exact H2_) | with_reducible exact H | (rw [hy322]; exact H) | exact H
   have Ny322 := aM hy322
   clear hy322
   obtain ⟨y325, hy325⟩ : ∃ y_ : List (List (S40)), y_ = (([t311, y322, t319] : List (List (S40)))) := ⟨_, rfl⟩
   replace H : ((impl_Heard_78.f kj5 y325).bind fun t328 => ((impl_TableOk.f kj5 t328).bind fun t331 => (if t331 = true then (some t328) else ((impl_Heard_75.f l0).bind fun t332 => (some t332))))) = some r := by first | (rw [hy325]; with_reducible exact H) | (have H2_ := (Option.bind_some _ _).symm.trans H; rw [hy325]; with_reducible exact H2_) | (have H2_ := (Option.bind_some _ _).symm.trans H; with_reducible exact H2_) | with_reducible exact H | (rw [hy325]; exact H) | exact H
   have Ny325 := aM hy325
   clear hy325
   replace H := Option.bind_eq_some_iff.mp H
   obtain ⟨t328, A280, H⟩ := H
   replace H : ((impl_TableOk.f kj5 t328).bind fun t331 => (if t331 = true then (some t328) else ((impl_Heard_75.f l0).bind fun t332 => (some t332)))) = some r := H
   have A28 := aM A280
   clear A280
   replace H := Option.bind_eq_some_iff.mp H
   obtain ⟨t331, A290, H⟩ := H
   replace H : (if t331 = true then (some t328) else ((impl_Heard_75.f l0).bind fun t332 => (some t332))) = some r := H
   have A29 := aM A290
   clear A290
   by_cases c30 : t331 = true
   case pos =>
    subst c30
    have H1 : (some t328) = some r := by rw [if_pos rfl] at H; exact H
    clear H
    have H := H1
    clear H1
    obtain rfl := Option.some.inj H
    try go_wp2
    have n0_ := aM (Kd.R_drew HO_10.out)
    have n1_ := aM (blk_drew BK300.out)
    have n2_ := aM (below_drew1 HB.out)
    clear HO_10 BK300 HB
    have HO_10 := n0_
    have BK300 := n1_
    have HB := n2_
    clear n0_ n1_ n2_
    obtain ⟨Ao33, co33, eo33⟩ := Kd.R_slice HO_10.out
    (first | subst eo33 | (injection eo33 with f1_ f2_ f3_; have f4_ := f1_.symm; have f5_ := f3_.symm; clear f1_ f2_ f3_; subst f4_; subst f5_))
    have q32 : (x11_5 : Int) ≤ ((t301.length : Int) : Int) := of_decide_eq_true (by first | (with_reducible assumption) | assumption)
    obtain ⟨i032, hi032, _, hsz32, _⟩ := info_parts info40
    have hroom32 : t301.length ≤ co33 := (Kd.R_reads' HO_10.out).2.1
    have hC32 : Kd.F k40 _ _ Ao33 t301.length t301 := (Kd.V_at (base := w.heap.size) (Kd.R_V HO_10.out)).2.2
    have hcut32 := cut_to (P := Try.prog) 24 40 .i64 Try.underlying24 hi032 Ao33 t301.length co33 x11_5 (of_decide_eq_true (by first | (with_reducible assumption) | assumption)) q32 hroom32
    have hr32 := Kd.F_take (m := (x11_5 : Int).toNat) hC32 (by omega)
    have hy32 : y306.length = (x11_5 : Int).toNat := (by rw [Ny306.out, List.length_take]; omega)
    rw [← Ny306.out] at hr32
    rw [← hy32] at hcut32
    have HO310 := aM (show Kd.V k40 40 _ w.heap.size _ (.slice Ao33 y306.length co33) y306 from Kd.V_mk (by omega) hr32)
    have HC310 := aM (show y306.length ≤ co33 from by omega)
    clear hr32 hC32 hroom32 hi032 hsz32
    have KY32 := aM hy32
    clear hy32
    replace q32 := eq_true q32
    have q34 : (x11_5 : Int) ≤ ((t301.length : Int) : Int) := of_decide_eq_true (by first | (with_reducible assumption) | assumption)
    obtain ⟨i034, hi034, _, hsz34, _⟩ := info_parts info40
    have hroom34 : t301.length ≤ co33 := (Kd.R_reads' HO_10.out).2.1
    have hC34 : Kd.F k40 _ _ Ao33 t301.length t301 := (Kd.V_at (base := w.heap.size) (Kd.R_V HO_10.out)).2.2
    have q034 : (0 : Int) ≤ (x11_5 : Int) := of_decide_eq_true (by first | (with_reducible assumption) | assumption)
    have hcut34 := cut_from (P := Try.prog) 24 40 .i64 Try.underlying24 hi034 4 hsz34 Ao33 t301.length co33 x11_5 q034 q34
    have hr34 := Kd.F_cut (m := (x11_5 : Int).toNat) (c := co33) hC34 (by omega) hroom34
    obtain ⟨A34, hA34⟩ : ∃ A1, A1 = (if co33 = (x11_5 : Int).toNat then Ao33 else (Ao33 : Option Addr).map (·.add ((x11_5 : Int).toNat * 4))) := ⟨_, rfl⟩
    obtain ⟨c34, hc34⟩ : ∃ c1, c1 = co33 - (x11_5 : Int).toNat := ⟨_, rfl⟩
    have hy34 : y314.length = t301.length - (x11_5 : Int).toNat := (by rw [Ny314.out, List.length_drop] <;> omega)
    rw [show (t301).drop (x11_5 : Int).toNat = y314 from Ny314.out.symm] at hr34
    replace hr34 : Kd.F k40 _ _ A34 y314.length y314 := (by rw [hA34]; exact hr34)
    rw [← hy34, ← hA34, ← hc34] at hcut34
    have HO318 := aM (show Kd.V k40 40 _ w.heap.size _ (.slice A34 y314.length c34) y314 from Kd.V_mk (by rw [hy34, hc34]; exact Nat.sub_le_sub_right hroom34 _) hr34)
    have HC318 := aM (show y314.length ≤ c34 from by rw [hy34, hc34]; exact Nat.sub_le_sub_right hroom34 _)
    clear hr34 hC34 hroom34 hi034 hsz34 hc34
    have KY34 := aM hy34
    have KA34 := aM hA34
    clear hy34 hA34
    replace q34 := eq_true q34
    refine start_ (n := 14) (S := fun w' => True) (ds := []) #[U,U,U,U,U,U,U,U,U,U,U,U,U,U] (by kernel_rfl) rfl rfl trivial (fun hHeld => ?_); refine with_tabW impl_Hear.tab6 impl_Hear.bits6 (fun HT_ HW_ => ?_)
    generalize wc.drew = w31 at HO_10 BK300 HB HO310 HO318 hHeld ⊢
    refine pure_ (i := 0) (N := some 34) (v := ?_) (a' := ?_) #[Y,U,U,U,U,U,U,U,U,U,U,U,U,U] rfl rfl (any_of HT_.out (by kernel_rfl)) (fun _ _ _ h => h) (Or.inl ⟨by rfl, ?_⟩) ?_ ?_
    rotate_left
    ·intro w'
     go_simp
     with_reducible rfl
    rotate_left
    ·simp only [Act.put, sA, sZ, sS, i64_w, i32_w]
     rfl
    refine pure_ (i := 1) (N := some 35) (v := ?_) (a' := ?_) #[Y,Y,U,U,U,U,U,U,U,U,U,U,U,U] rfl rfl (any_of HT_.out (by kernel_rfl)) (fun _ _ _ h => h) (Or.inl ⟨by rfl, ?_⟩) ?_ ?_
    rotate_left
    ·intro w'
     go_simp
     with_reducible rfl
    rotate_left
    ·simp only [Act.put, sA, sZ, sS, i64_w, i32_w]
     rfl
    refine pure_ (i := 2) (N := some 36) (v := ?_) (a' := ?_) #[Y,Y,Y,U,U,U,U,U,U,U,U,U,U,U] rfl rfl (any_of HT_.out (by kernel_rfl)) (fun _ _ _ h => h) (Or.inl ⟨by rfl, ?_⟩) ?_ ?_
    rotate_left
    ·intro w'
     go_simp
     with_reducible rfl
    rotate_left
    ·simp only [Act.put, sA, sZ, sS, i64_w, i32_w]
     rfl
    refine pure_ (i := 3) (N := some 37) (v := ?_) (a' := ?_) #[Y,Y,Y,Y,U,U,U,U,U,U,U,U,U,U] rfl rfl (any_of HT_.out (by kernel_rfl)) (fun _ _ _ h => h) (Or.inl ⟨by rfl, ?_⟩) ?_ ?_
    rotate_left
    ·intro w'
     go_simp
     with_reducible rfl
    rotate_left
    ·simp only [Act.put, sA, sZ, sS, i64_w, i32_w]
     rfl
    refine pure_ (i := 4) (N := some 38) (v := ?_) (a' := ?_) #[Y,Y,Y,Y,Y,U,U,U,U,U,U,U,U,U] rfl rfl (any_of HT_.out (by kernel_rfl)) (fun _ _ _ h => h) (Or.inl ⟨by rfl, ?_⟩) ?_ ?_
    rotate_left
    ·intro w'
     go_simp
     with_reducible rfl
    rotate_left
    ·simp only [Act.put, sA, sZ, sS, i64_w, i32_w]
     rfl
    refine pure_ (i := 6) (N := some 40) (v := ?_) (a' := ?_) #[Y,Y,Y,Y,Y,U,Y,U,U,U,U,U,U,U] rfl rfl (any_of HT_.out (by kernel_rfl)) (fun _ _ _ h => h) (Or.inl ⟨by rfl, ?_⟩) ?_ ?_
    rotate_left
    ·intro w'
     go_simp
     with_reducible rfl
    rotate_left
    ·simp only [Act.put, sA, sZ, sS, i64_w, i32_w]
     rfl
    refine pure_ (i := 7) (N := some 41) (v := ?_) (a' := ?_) #[Y,Y,Y,Y,Y,U,Y,Y,U,U,U,U,U,U] rfl rfl (any_of HT_.out (by kernel_rfl)) (fun _ _ _ h => h) (Or.inl ⟨by rfl, ?_⟩) ?_ ?_
    rotate_left
    ·intro w'
     go_simp
     with_reducible rfl
    rotate_left
    ·simp only [Act.put, sA, sZ, sS, i64_w, i32_w]
     rfl
    refine pure_ (i := 8) (N := some 42) (v := ?_) (a' := ?_) #[Y,Y,Y,Y,Y,U,Y,Y,Y,U,U,U,U,U] rfl rfl (any_of HT_.out (by kernel_rfl)) (fun _ _ _ h => h) (Or.inl ⟨by rfl, ?_⟩) ?_ ?_
    rotate_left
    ·intro w'
     go_simp
     with_reducible rfl
    rotate_left
    ·simp only [Act.put, sA, sZ, sS, i64_w, i32_w]
     rfl
    refine pure_ (i := 9) (N := some 43) (v := ?_) (a' := ?_) #[Y,Y,Y,Y,Y,U,Y,Y,Y,Y,U,U,U,U] rfl rfl (any_of HT_.out (by kernel_rfl)) (fun _ _ _ h => h) (Or.inl ⟨by rfl, ?_⟩) ?_ ?_
    rotate_left
    ·intro w'
     go_simp
     with_reducible rfl
    rotate_left
    ·simp only [Act.put, sA, sZ, sS, i64_w, i32_w]
     rfl
    refine pure_ (i := 10) (N := some 44) (v := ?_) (a' := ?_) #[Y,Y,Y,Y,Y,U,Y,Y,Y,Y,Y,U,U,U] rfl rfl (any_of HT_.out (by kernel_rfl)) (fun _ _ _ h => h) (Or.inl ⟨by rfl, ?_⟩) ?_ ?_
    rotate_left
    ·intro w'
     go_simp
     with_reducible rfl
    rotate_left
    ·simp only [Act.put, sA, sZ, sS, i64_w, i32_w]
     rfl
    refine one_ (i := 5) (N := some 39) #[Y,Y,Y,Y,Y,Y,Y,Y,Y,Y,Y,U,U,U] rfl rfl (one_of HT_.out (by kernel_rfl)) (by decide) (fun K hK => ?_)
    refine goes_ Try.func77 (by kernel_rfl) rfl #[.slice Ao33 y306.length co33, .int .i64 a1, .int .i64 a2] (by rfl) rfl rfl xR ?_
    with_reducible refine (impl_others.calls kj5 _ _ y306 a1 a2 t311 _ ?side1 ?side2 A24.out).mono ?_
    (case side1 => repeat (first | exact (Kd.V_reads' HO310.out).2.2 | (with_reducible refine Kd.C_alloc ?_ _) | (with_reducible refine Kd.C_drewN ?_ _) | (with_reducible refine Kd.C_drew ?_)))
    (case side2 => exact (Kd.V_reads' HO310.out).2.1)
    rintro e w35 ⟨v312, rfl, ho0, hb⟩
    refine ⟨_, rfl, ?_⟩
    have n0_ := aM (Kd.R_elder' (kr HO_10.out) (Kd.R_base ho0) hb)
    have n1_ := aM (Kd.V_elder' (by (with_reducible repeat (first | apply Kd.V_alloc | apply Kd.V_drewN | apply Kd.V_drew)); exact HO310.out) (Kd.R_base ho0) hb)
    have n2_ := aM (Kd.V_elder' (by (with_reducible repeat (first | apply Kd.V_alloc | apply Kd.V_drewN | apply Kd.V_drew)); exact HO318.out) (Kd.R_base ho0) hb)
    have n3_ := aM (Kd.R_lower (Kd.R_newB (Kd.R_new' ho0 (Kd.R_lt (kr HO_10.out))) (g := gb300) (o := .cells #[.int .i64 a1, .int .i64 a2, .int .i64 a3, .int .i64 20] 40 (0, 0)) (bk BK300.out)) (below_size (bl HB.out)))
    have n4_ := aM (bB (g := gb300) (o := .cells #[.int .i64 a1, .int .i64 a2, .int .i64 a3, .int .i64 20] 40 (0, 0)) (bk BK300.out) hb)
    have n5_ := aM (bS (bl HB.out) hb)
    clear HO_10 HO310
    clear HO318 BK300 HB
    have HO_10 := n0_
    have HO310 := n1_
    have HO318 := n2_
    have HO313 := n3_
    have BK300 := n4_
    have HB := n5_
    clear n0_ n1_ n2_ n3_ n4_ n5_
    (try clear hb)
    (try clear hb2)
    (try clear hk)
    (try clear hi)
    (try clear ho0)
    refine hK.out _ _ trivial (fun hHeld => ?_)
    clear hK K
    refine norm_ (a' := ?_) ?_ ?_
    rotate_left
    ·show Act.put _ (some 39) _ = _
     simp only [Act.put, sA, sZ, sS, i64_w, i32_w]
     rfl
    refine one_ (i := 11) (N := some 45) #[Y,Y,Y,Y,Y,Y,Y,Y,Y,Y,Y,Y,U,U] rfl rfl (one_of HT_.out (by kernel_rfl)) (by decide) (fun K hK => ?_)
    refine goes_ Try.func77 (by kernel_rfl) rfl #[.slice A34 y314.length c34, .int .i64 a1, .int .i64 a2] (by rfl) rfl rfl xR ?_
    with_reducible refine (impl_others.calls kj5 _ _ y314 a1 a2 t319 _ ?side1 ?side2 A27.out).mono ?_
    (case side1 => repeat (first | exact (Kd.V_reads' HO318.out).2.2 | (with_reducible refine Kd.C_alloc ?_ _) | (with_reducible refine Kd.C_drewN ?_ _) | (with_reducible refine Kd.C_drew ?_)))
    (case side2 => exact (Kd.V_reads' HO318.out).2.1)
    rintro e w36 ⟨v320, rfl, ho0, hb⟩
    refine ⟨_, rfl, ?_⟩
    have n0_ := aM (Kd.R_elder' (kr HO_10.out) (Kd.R_base ho0) hb)
    have n1_ := aM (Kd.V_elder' (by (with_reducible repeat (first | apply Kd.V_alloc | apply Kd.V_drewN | apply Kd.V_drew)); exact HO310.out) (Kd.R_base ho0) hb)
    have n2_ := aM (Kd.V_elder' (by (with_reducible repeat (first | apply Kd.V_alloc | apply Kd.V_drewN | apply Kd.V_drew)); exact HO318.out) (Kd.R_base ho0) hb)
    have n3_ := aM (Kd.R_elder' (kr HO313.out) (Kd.R_base ho0) hb)
    have n4_ := aM (Kd.R_lower (Kd.R_newB (Kd.R_new' (Kd.R_new' ho0 (Kd.R_lt (kr HO_10.out))) (Kd.R_lt (kr HO313.out))) (g := gb300) (o := .cells #[.int .i64 a1, .int .i64 a2, .int .i64 a3, .int .i64 20] 40 (0, 0)) (bk BK300.out)) (below_size (bl HB.out)))
    have n5_ := aM (bB (g := gb300) (o := .cells #[.int .i64 a1, .int .i64 a2, .int .i64 a3, .int .i64 20] 40 (0, 0)) (bk BK300.out) hb)
    have n6_ := aM (bS (bl HB.out) hb)
    clear HO_10 HO310
    clear HO318 HO313
    clear BK300 HB
    have HO_10 := n0_
    have HO310 := n1_
    have HO318 := n2_
    have HO313 := n3_
    have HO321 := n4_
    have BK300 := n5_
    have HB := n6_
    clear n0_ n1_ n2_ n3_ n4_ n5_ n6_
    (try clear hb)
    (try clear hb2)
    (try clear hk)
    (try clear hi)
    (try clear ho0)
    refine hK.out _ _ trivial (fun hHeld => ?_)
    clear hK K
    refine norm_ (a' := ?_) ?_ ?_
    rotate_left
    ·show Act.put _ (some 45) _ = _
     simp only [Act.put, sA, sZ, sS, i64_w, i32_w]
     rfl
    refine pure_ (i := 12) (N := some 12) (v := ?_) (a' := ?_) #[Y,Y,Y,Y,Y,Y,Y,Y,Y,Y,Y,Y,Y,U] rfl rfl (any_of HT_.out (by kernel_rfl)) (fun _ _ _ h => h) (Or.inl ⟨by rfl, ?_⟩) ?_ ?_
    rotate_left
    ·intro w'
     go_simp
     with_reducible rfl
    rotate_left
    ·simp only [Act.put, sA, sZ, sS, i64_w, i32_w]
     rfl
    refine pure_ (i := 13) (N := some 13) (v := ?_) (a' := ?_) #[Y,Y,Y,Y,Y,Y,Y,Y,Y,Y,Y,Y,Y,Y] rfl rfl (any_of HT_.out (by kernel_rfl)) (fun _ _ _ h => h) (Or.inl ⟨by rfl, ?_⟩) ?_ ?_
    rotate_left
    ·intro w'
     go_simp
     with_reducible rfl
    rotate_left
    ·simp only [Act.put, sA, sZ, sS, i64_w, i32_w]
     rfl
    refine done_ (done_of HT_.out (by kernel_rfl)) ?_
    have hcz37_0 := cI BK300.out 0
    have hcz37_1 := cI BK300.out 1
    have hcz37_2 := cI BK300.out 2
    have hcz37_3 := cI BK300.out 3
    have hfz37_0 := bF BK300.out 0
    have hfz37_1 := bF BK300.out 1
    have hfz37_2 := bF BK300.out 2
    have hfz37_3 := bF BK300.out 3
    try go_wp2_with (first | ((with_reducible refine gate_dst (N := 48) rfl ?_); refine Kd.R_lit k40 _ 40 ?hg (N := 48) ?hd (xs := ([(⟨a1, a2, a3, 20⟩ : S40)] : List (S40))) (inner := [.int .i64 a1, .int .i64 a2, .int .i64 a3, .int .i64 20]) (ok := fun _ => True) (okp := fun _ => True) ?hr ?hp (fun _ hk => hk) trivial (Below.refl _ _) (Nat.le_refl _) (by simp) ?_; (case hd => rfl); (case hg => rfl); (case hr => first | (go_simp; done) | (go_simp; rfl) | (obtain ⟨A_, c_, e_⟩ := Kd.R_slice HO_10.out; subst e_; (first | (go_simp; done) | (go_simp; rfl))) | (obtain ⟨A_, c_, e_⟩ := Kd.S_slice HO_10.out; subst e_; (first | (go_simp; done) | (go_simp; rfl))) | (obtain ⟨A_, c_, e_⟩ := Kd.R_slice HO310.out; subst e_; (first | (go_simp; done) | (go_simp; rfl))) | (obtain ⟨A_, c_, e_⟩ := Kd.S_slice HO310.out; subst e_; (first | (go_simp; done) | (go_simp; rfl))) | (obtain ⟨A_, c_, e_⟩ := Kd.R_slice HO318.out; subst e_; (first | (go_simp; done) | (go_simp; rfl))) | (obtain ⟨A_, c_, e_⟩ := Kd.S_slice HO318.out; subst e_; (first | (go_simp; done) | (go_simp; rfl))) | (obtain ⟨A_, c_, e_⟩ := Kd.R_slice HO313.out; subst e_; (first | (go_simp; done) | (go_simp; rfl))) | (obtain ⟨A_, c_, e_⟩ := Kd.S_slice HO313.out; subst e_; (first | (go_simp; done) | (go_simp; rfl))) | (obtain ⟨A_, c_, e_⟩ := Kd.R_slice HO321.out; subst e_; (first | (go_simp; done) | (go_simp; rfl))) | (obtain ⟨A_, c_, e_⟩ := Kd.S_slice HO321.out; subst e_; (first | (go_simp; done) | (go_simp; rfl))) | (obtain ⟨A_, c_, e_⟩ := Kd.R_slice HO324.out; subst e_; (first | (go_simp; done) | (go_simp; rfl))) | (obtain ⟨A_, c_, e_⟩ := Kd.S_slice HO324.out; subst e_; (first | (go_simp; done) | (go_simp; rfl))) | (obtain ⟨A_, c_, e_⟩ := Kd.R_slice HO327.out; subst e_; (first | (go_simp; done) | (go_simp; rfl))) | (obtain ⟨A_, c_, e_⟩ := Kd.S_slice HO327.out; subst e_; (first | (go_simp; done) | (go_simp; rfl))) | (obtain ⟨A_, c_, e_⟩ := Kd.R_slice HO330.out; subst e_; (first | (go_simp; done) | (go_simp; rfl))) | (obtain ⟨A_, c_, e_⟩ := Kd.S_slice HO330.out; subst e_; (first | (go_simp; done) | (go_simp; rfl)))); (case hp => exact (Reps.c4 (show Kd.M k40 _ _ _ (⟨a1, a2, a3, 20⟩ : S40) [.int .i64 a1, .int .i64 a2, .int .i64 a3, .int .i64 20] from (k40_mkM _ _ _ (⟨a1, a2, a3, 20⟩ : S40) )) (Reps.none _ _))); intro v323 w38 ho39 hb hg_ hnew_; clear hg_ hnew_; (first | rw [← Ny322.out] at ho39 | (simp only [Int.reduceToNat] at ho39; rw [← Ny322.out] at ho39)); have n0_ := aM (Kd.R_elder' (kr HO_10.out) (Kd.R_base ho39) hb); have n1_ := aM (Kd.V_elder' (by (with_reducible repeat (first | apply Kd.V_alloc | apply Kd.V_drewN | apply Kd.V_drew)); exact HO310.out) (Kd.R_base ho39) hb); have n2_ := aM (Kd.V_elder' (by (with_reducible repeat (first | apply Kd.V_alloc | apply Kd.V_drewN | apply Kd.V_drew)); exact HO318.out) (Kd.R_base ho39) hb); have n3_ := aM (Kd.R_elder' (kr HO313.out) (Kd.R_base ho39) hb); have n4_ := aM (Kd.R_elder' (kr HO321.out) (Kd.R_base ho39) hb); have n5_ := aM (Kd.R_lower (Kd.R_newB (Kd.R_new' (Kd.R_new' (Kd.R_new' ho39 (Kd.R_lt (kr HO_10.out))) (Kd.R_lt (kr HO313.out))) (Kd.R_lt (kr HO321.out))) (g := gb300) (o := .cells #[.int .i64 a1, .int .i64 a2, .int .i64 a3, .int .i64 20] 40 (0, 0)) (bk BK300.out)) (below_size (bl HB.out))); have n6_ := aM (bB (g := gb300) (o := .cells #[.int .i64 a1, .int .i64 a2, .int .i64 a3, .int .i64 20] 40 (0, 0)) (bk BK300.out) hb); have n7_ := aM (bS (bl HB.out) hb); clear HO_10 HO310; clear HO318 HO313; clear HO321 BK300 HB; have HO_10 := n0_; have HO310 := n1_; have HO318 := n2_; have HO313 := n3_; have HO321 := n4_; have HO324 := n5_; have BK300 := n6_; have HB := n7_; clear n0_ n1_ n2_ n3_ n4_ n5_ n6_ n7_; clear hb ho39; obtain ⟨Ao40, co40, eo40⟩ := Kd.R_slice HO313.out; subst eo40; obtain ⟨Ao41, co41, eo41⟩ := Kd.R_slice HO324.out; subst eo41; obtain ⟨Ao42, co42, eo42⟩ := Kd.R_slice HO321.out; subst eo42) | ((with_reducible refine gate_dst (N := 50) rfl ?_); refine Kd.N_lit (Kd.slice 40 k40) _ 24 ?hg (N' := 50) ?hd (xs := ([t311, y322, t319] : List (List (S40)))) (inner := [.slice Ao40 t311.length co40, .slice Ao41 y322.length co41, .slice Ao42 t319.length co42]) (ok := (fun k_ => some k_ ≠ (.slice Ao33 t301.length co33 : Value).ownBlock ∧ k_ ≠ gb300)) (okp := (fun k_ => some k_ ≠ (.slice Ao33 t301.length co33 : Value).ownBlock ∧ k_ ≠ gb300)) ?hr ?hp (fun _ hk => hk) ((show ∀ k_, w38.heap.size ≤ k_ → (fun k_ => some k_ ≠ (.slice Ao33 t301.length co33 : Value).ownBlock ∧ k_ ≠ gb300) k_ from fun k_ hk => ⟨Kd.fresh' (Kd.R_lt (kr HO_10.out)) k_ hk, Kd.freshB (g := gb300) (o := .cells #[.int .i64 a1, .int .i64 a2, .int .i64 a3, .int .i64 20] 40 (0, 0)) (bk BK300.out) k_ hk⟩) _ (Nat.le_refl _)) (Below.refl _ _) (Nat.le_refl _) (by simp) ?_; (case hd => rfl); (case hg => rfl); (case hr => first | (go_simp; done) | (go_simp; rfl) | (obtain ⟨A_, c_, e_⟩ := Kd.R_slice HO_10.out; subst e_; (first | (go_simp; done) | (go_simp; rfl))) | (obtain ⟨A_, c_, e_⟩ := Kd.S_slice HO_10.out; subst e_; (first | (go_simp; done) | (go_simp; rfl))) | (obtain ⟨A_, c_, e_⟩ := Kd.R_slice HO310.out; subst e_; (first | (go_simp; done) | (go_simp; rfl))) | (obtain ⟨A_, c_, e_⟩ := Kd.S_slice HO310.out; subst e_; (first | (go_simp; done) | (go_simp; rfl))) | (obtain ⟨A_, c_, e_⟩ := Kd.R_slice HO318.out; subst e_; (first | (go_simp; done) | (go_simp; rfl))) | (obtain ⟨A_, c_, e_⟩ := Kd.S_slice HO318.out; subst e_; (first | (go_simp; done) | (go_simp; rfl))) | (obtain ⟨A_, c_, e_⟩ := Kd.R_slice HO313.out; subst e_; (first | (go_simp; done) | (go_simp; rfl))) | (obtain ⟨A_, c_, e_⟩ := Kd.S_slice HO313.out; subst e_; (first | (go_simp; done) | (go_simp; rfl))) | (obtain ⟨A_, c_, e_⟩ := Kd.R_slice HO321.out; subst e_; (first | (go_simp; done) | (go_simp; rfl))) | (obtain ⟨A_, c_, e_⟩ := Kd.S_slice HO321.out; subst e_; (first | (go_simp; done) | (go_simp; rfl))) | (obtain ⟨A_, c_, e_⟩ := Kd.R_slice HO324.out; subst e_; (first | (go_simp; done) | (go_simp; rfl))) | (obtain ⟨A_, c_, e_⟩ := Kd.S_slice HO324.out; subst e_; (first | (go_simp; done) | (go_simp; rfl))) | (obtain ⟨A_, c_, e_⟩ := Kd.R_slice HO327.out; subst e_; (first | (go_simp; done) | (go_simp; rfl))) | (obtain ⟨A_, c_, e_⟩ := Kd.S_slice HO327.out; subst e_; (first | (go_simp; done) | (go_simp; rfl))) | (obtain ⟨A_, c_, e_⟩ := Kd.R_slice HO330.out; subst e_; (first | (go_simp; done) | (go_simp; rfl))) | (obtain ⟨A_, c_, e_⟩ := Kd.S_slice HO330.out; subst e_; (first | (go_simp; done) | (go_simp; rfl)))); (case hp => exact (Reps.one (show Kd.FK (Kd.slice 40 k40) _ _ t311 [.slice Ao40 t311.length co40] from (Kd.FK_slice_mk (Kd.R_reads' (Kd.R_mono (ok' := (fun k_ => some k_ ≠ (.slice Ao33 t301.length co33 : Value).ownBlock ∧ k_ ≠ gb300)) (HO313.out) (fun k_ hk => ⟨hk.1.1.1.2, hk.1.1.2⟩))).2.1 (Kd.R_F (Kd.R_mono (ok' := (fun k_ => some k_ ≠ (.slice Ao33 t301.length co33 : Value).ownBlock ∧ k_ ≠ gb300)) (HO313.out) (fun k_ hk => ⟨hk.1.1.1.2, hk.1.1.2⟩))))) (Reps.one (show Kd.FK (Kd.slice 40 k40) _ _ y322 [.slice Ao41 y322.length co41] from (Kd.FK_slice_mk (Kd.R_reads' (Kd.R_mono (ok' := (fun k_ => some k_ ≠ (.slice Ao33 t301.length co33 : Value).ownBlock ∧ k_ ≠ gb300)) (HO324.out) (fun k_ hk => ⟨hk.1.1.1.2, hk.2⟩))).2.1 (Kd.R_F (Kd.R_mono (ok' := (fun k_ => some k_ ≠ (.slice Ao33 t301.length co33 : Value).ownBlock ∧ k_ ≠ gb300)) (HO324.out) (fun k_ hk => ⟨hk.1.1.1.2, hk.2⟩))))) (Reps.one (show Kd.FK (Kd.slice 40 k40) _ _ t319 [.slice Ao42 t319.length co42] from (Kd.FK_slice_mk (Kd.R_reads' (Kd.R_mono (ok' := (fun k_ => some k_ ≠ (.slice Ao33 t301.length co33 : Value).ownBlock ∧ k_ ≠ gb300)) (HO321.out) (fun k_ hk => ⟨hk.1.1.1.2, hk.1.2⟩))).2.1 (Kd.R_F (Kd.R_mono (ok' := (fun k_ => some k_ ≠ (.slice Ao33 t301.length co33 : Value).ownBlock ∧ k_ ≠ gb300)) (HO321.out) (fun k_ hk => ⟨hk.1.1.1.2, hk.1.2⟩))))) (Reps.none _ _))))); intro v326 w43 ho44 hb hg_ hnew_; clear hg_ hnew_; (first | rw [← Ny325.out] at ho44 | (simp only [Int.reduceToNat] at ho44; rw [← Ny325.out] at ho44)); have n0_ := aM (kB (kr HO_10.out) hb); have n1_ := aM (Kd.V_elder' (by (with_reducible repeat (first | apply Kd.V_alloc | apply Kd.V_drewN | apply Kd.V_drew)); exact HO310.out) (Kd.N_base ho44) hb); have n2_ := aM (Kd.V_elder' (by (with_reducible repeat (first | apply Kd.V_alloc | apply Kd.V_drewN | apply Kd.V_drew)); exact HO318.out) (Kd.N_base ho44) hb); have n3_ := aM (Kd.N_lower ho44 (below_size (bl HB.out))); have n4_ := aM (bB (g := gb300) (o := .cells #[.int .i64 a1, .int .i64 a2, .int .i64 a3, .int .i64 20] 40 (0, 0)) (bk BK300.out) hb); have n5_ := aM (bS (bl HB.out) hb); clear HO_10 HO310; clear HO318 BK300; clear HB HO313; clear HO321 HO324; have HO_10 := n0_; have HO310 := n1_; have HO318 := n2_; have HO327 := n3_; have BK300 := n4_; have HB := n5_; clear n0_ n1_ n2_ n3_ n4_ n5_; clear hb ho44; obtain ⟨Ao45, co45, eo45⟩ := Kd.N_slice HO327.out; subst eo45) | ((with_reducible refine gate_callee (f := 78) rfl ?_); refine goesL_ (some 51) rfl rfl Try.func78 (by kernel_rfl) rfl #[.slice Ao45 y325.length co45] rfl xR ?_; (with_reducible refine (impl_Heard_78.calls kj5 _ _ y325 t328 _ ?side1 ?side2 A28.out).mono ?_); (case side1 => repeat (first | exact (Kd.N_reads' HO327.out).2.2 | (with_reducible refine Kd.C_alloc ?_ _) | (with_reducible refine Kd.C_drewN ?_ _) | (with_reducible refine Kd.C_drew ?_))); (case side2 => exact (Kd.N_reads' HO327.out).2.1); rintro e w46 ⟨v329, rfl, ho0, hb⟩; refine ⟨_, rfl, ?_⟩; have n0_ := aM (Kd.R_elder' (kr HO_10.out) (Kd.R_base ho0) hb); have n1_ := aM (Kd.V_elder' (by (with_reducible repeat (first | apply Kd.V_alloc | apply Kd.V_drewN | apply Kd.V_drew)); exact HO310.out) (Kd.R_base ho0) hb); have n2_ := aM (Kd.V_elder' (by (with_reducible repeat (first | apply Kd.V_alloc | apply Kd.V_drewN | apply Kd.V_drew)); exact HO318.out) (Kd.R_base ho0) hb); have n3_ := aM (Kd.N_elder' (by (with_reducible repeat (first | apply Kd.N_alloc | apply Kd.N_drewN | apply Kd.N_drew)); exact HO327.out) (Kd.R_base ho0) hb); have n4_ := aM (Kd.R_lower (Kd.R_newB (Kd.R_new' ho0 (Kd.R_lt (kr HO_10.out))) (g := gb300) (o := .cells #[.int .i64 a1, .int .i64 a2, .int .i64 a3, .int .i64 20] 40 (0, 0)) (bk BK300.out)) (below_size (bl HB.out))); have n5_ := aM (bB (g := gb300) (o := .cells #[.int .i64 a1, .int .i64 a2, .int .i64 a3, .int .i64 20] 40 (0, 0)) (bk BK300.out) hb); have n6_ := aM (bS (bl HB.out) hb); clear HO_10 HO310; clear HO318 HO327; clear BK300 HB; have HO_10 := n0_; have HO310 := n1_; have HO318 := n2_; have HO327 := n3_; have HO330 := n4_; have BK300 := n5_; have HB := n6_; clear n0_ n1_ n2_ n3_ n4_ n5_ n6_; (try clear hb); (try clear ho0); obtain ⟨Ao47, co47, eo47⟩ := Kd.R_slice HO330.out; subst eo47) | ((with_reducible refine gate_callee (f := 26) rfl ?_); refine goesL_ (some 53) rfl rfl Try.func26 (by kernel_rfl) rfl #[.slice Ao47 t328.length co47] rfl xR ?_; (with_reducible refine (impl_TableOk.calls kj5 _ _ t328 true _ ?side1 ?side2 A29.out).mono ?_); (case side1 => repeat (first | exact (Kd.R_reads' HO330.out).2.2 | (with_reducible refine Kd.C_alloc ?_ _) | (with_reducible refine Kd.C_drewN ?_ _) | (with_reducible refine Kd.C_drew ?_))); (case side2 => exact (Kd.R_reads' HO330.out).2.1); rintro e w48 ⟨rfl, hb⟩; refine ⟨_, rfl, ?_⟩; have n0_ := aM (kB (kr HO_10.out) hb); have n1_ := aM (Kd.V_below (by (with_reducible repeat (first | apply Kd.V_alloc | apply Kd.V_drewN | apply Kd.V_drew)); exact HO310.out) hb); have n2_ := aM (Kd.V_below (by (with_reducible repeat (first | apply Kd.V_alloc | apply Kd.V_drewN | apply Kd.V_drew)); exact HO318.out) hb); have n3_ := aM (Kd.N_below (by (with_reducible repeat (first | apply Kd.N_alloc | apply Kd.N_drewN | apply Kd.N_drew)); exact HO327.out) hb); have n4_ := aM (kB (kr HO330.out) hb); have n5_ := aM (bB (g := gb300) (o := .cells #[.int .i64 a1, .int .i64 a2, .int .i64 a3, .int .i64 20] 40 (0, 0)) (bk BK300.out) hb); have n6_ := aM (bS (bl HB.out) hb); clear HO_10 HO310; clear HO318 HO327; clear HO330 BK300 HB; have HO_10 := n0_; have HO310 := n1_; have HO318 := n2_; have HO327 := n3_; have HO330 := n4_; have BK300 := n5_; have HB := n6_; clear n0_ n1_ n2_ n3_ n4_ n5_ n6_; (try clear hb)))
    go_ret
    exact ⟨_, xW, by (with_reducible repeat (first | apply Kd.R_alloc | apply Kd.R_drewN | apply Kd.R_drew)); exact Kd.R_mono HO330.out (fun _ hk => trivial), bl HB.out⟩
   replace c30 := Bool.eq_false_iff.mpr c30
   subst c30
   have H1 : ((impl_Heard_75.f l0).bind fun t332 => (some t332)) = some r := by rw [if_neg (show ¬ (false = true) by decide)] at H; exact H
   clear H
   have H := H1
   clear H1
   replace H := Option.bind_eq_some_iff.mp H
   obtain ⟨t332, A490, H⟩ := H
   replace H : (some t332) = some r := H
   have A49 := aM A490
   clear A490
   obtain rfl := Option.some.inj H
   try go_wp2
   have n0_ := aM (Kd.R_drew HO_10.out)
   have n1_ := aM (blk_drew BK300.out)
   have n2_ := aM (below_drew1 HB.out)
   clear HO_10 BK300 HB
   have HO_10 := n0_
   have BK300 := n1_
   have HB := n2_
   clear n0_ n1_ n2_
   obtain ⟨Ao52, co52, eo52⟩ := Kd.R_slice HO_10.out
   (first | subst eo52 | (injection eo52 with f1_ f2_ f3_; have f4_ := f1_.symm; have f5_ := f3_.symm; clear f1_ f2_ f3_; subst f4_; subst f5_))
   have q51 : (x11_5 : Int) ≤ ((t301.length : Int) : Int) := of_decide_eq_true (by first | (with_reducible assumption) | assumption)
   obtain ⟨i051, hi051, _, hsz51, _⟩ := info_parts info40
   have hroom51 : t301.length ≤ co52 := (Kd.R_reads' HO_10.out).2.1
   have hC51 : Kd.F k40 _ _ Ao52 t301.length t301 := (Kd.V_at (base := w.heap.size) (Kd.R_V HO_10.out)).2.2
   have hcut51 := cut_to (P := Try.prog) 24 40 .i64 Try.underlying24 hi051 Ao52 t301.length co52 x11_5 (of_decide_eq_true (by first | (with_reducible assumption) | assumption)) q51 hroom51
   have hr51 := Kd.F_take (m := (x11_5 : Int).toNat) hC51 (by omega)
   have hy51 : y306.length = (x11_5 : Int).toNat := (by rw [Ny306.out, List.length_take]; omega)
   rw [← Ny306.out] at hr51
   rw [← hy51] at hcut51
   have HO310 := aM (show Kd.V k40 40 _ w.heap.size _ (.slice Ao52 y306.length co52) y306 from Kd.V_mk (by omega) hr51)
   have HC310 := aM (show y306.length ≤ co52 from by omega)
   clear hr51 hC51 hroom51 hi051 hsz51
   have KY51 := aM hy51
   clear hy51
   replace q51 := eq_true q51
   have q53 : (x11_5 : Int) ≤ ((t301.length : Int) : Int) := of_decide_eq_true (by first | (with_reducible assumption) | assumption)
   obtain ⟨i053, hi053, _, hsz53, _⟩ := info_parts info40
   have hroom53 : t301.length ≤ co52 := (Kd.R_reads' HO_10.out).2.1
   have hC53 : Kd.F k40 _ _ Ao52 t301.length t301 := (Kd.V_at (base := w.heap.size) (Kd.R_V HO_10.out)).2.2
   have q053 : (0 : Int) ≤ (x11_5 : Int) := of_decide_eq_true (by first | (with_reducible assumption) | assumption)
   have hcut53 := cut_from (P := Try.prog) 24 40 .i64 Try.underlying24 hi053 4 hsz53 Ao52 t301.length co52 x11_5 q053 q53
   have hr53 := Kd.F_cut (m := (x11_5 : Int).toNat) (c := co52) hC53 (by omega) hroom53
   obtain ⟨A53, hA53⟩ : ∃ A1, A1 = (if co52 = (x11_5 : Int).toNat then Ao52 else (Ao52 : Option Addr).map (·.add ((x11_5 : Int).toNat * 4))) := ⟨_, rfl⟩
   obtain ⟨c53, hc53⟩ : ∃ c1, c1 = co52 - (x11_5 : Int).toNat := ⟨_, rfl⟩
   have hy53 : y314.length = t301.length - (x11_5 : Int).toNat := (by rw [Ny314.out, List.length_drop] <;> omega)
   rw [show (t301).drop (x11_5 : Int).toNat = y314 from Ny314.out.symm] at hr53
   replace hr53 : Kd.F k40 _ _ A53 y314.length y314 := (by rw [hA53]; exact hr53)
   rw [← hy53, ← hA53, ← hc53] at hcut53
   have HO318 := aM (show Kd.V k40 40 _ w.heap.size _ (.slice A53 y314.length c53) y314 from Kd.V_mk (by rw [hy53, hc53]; exact Nat.sub_le_sub_right hroom53 _) hr53)
   have HC318 := aM (show y314.length ≤ c53 from by rw [hy53, hc53]; exact Nat.sub_le_sub_right hroom53 _)
   clear hr53 hC53 hroom53 hi053 hsz53 hc53
   have KY53 := aM hy53
   have KA53 := aM hA53
   clear hy53 hA53
   replace q53 := eq_true q53
   refine start_ (n := 14) (S := fun w' => True) (ds := []) #[U,U,U,U,U,U,U,U,U,U,U,U,U,U] (by kernel_rfl) rfl rfl trivial (fun hHeld => ?_); refine with_tabW impl_Hear.tab6 impl_Hear.bits6 (fun HT_ HW_ => ?_)
   generalize wc.drew = w50 at HO_10 BK300 HB HO310 HO318 hHeld ⊢
   refine pure_ (i := 0) (N := some 34) (v := ?_) (a' := ?_) #[Y,U,U,U,U,U,U,U,U,U,U,U,U,U] rfl rfl (any_of HT_.out (by kernel_rfl)) (fun _ _ _ h => h) (Or.inl ⟨by rfl, ?_⟩) ?_ ?_
   rotate_left
   ·intro w'
    go_simp
    with_reducible rfl
   rotate_left
   ·simp only [Act.put, sA, sZ, sS, i64_w, i32_w]
    rfl
   refine pure_ (i := 1) (N := some 35) (v := ?_) (a' := ?_) #[Y,Y,U,U,U,U,U,U,U,U,U,U,U,U] rfl rfl (any_of HT_.out (by kernel_rfl)) (fun _ _ _ h => h) (Or.inl ⟨by rfl, ?_⟩) ?_ ?_
   rotate_left
   ·intro w'
    go_simp
    with_reducible rfl
   rotate_left
   ·simp only [Act.put, sA, sZ, sS, i64_w, i32_w]
    rfl
   refine pure_ (i := 2) (N := some 36) (v := ?_) (a' := ?_) #[Y,Y,Y,U,U,U,U,U,U,U,U,U,U,U] rfl rfl (any_of HT_.out (by kernel_rfl)) (fun _ _ _ h => h) (Or.inl ⟨by rfl, ?_⟩) ?_ ?_
   rotate_left
   ·intro w'
    go_simp
    with_reducible rfl
   rotate_left
   ·simp only [Act.put, sA, sZ, sS, i64_w, i32_w]
    rfl
   refine pure_ (i := 3) (N := some 37) (v := ?_) (a' := ?_) #[Y,Y,Y,Y,U,U,U,U,U,U,U,U,U,U] rfl rfl (any_of HT_.out (by kernel_rfl)) (fun _ _ _ h => h) (Or.inl ⟨by rfl, ?_⟩) ?_ ?_
   rotate_left
   ·intro w'
    go_simp
    with_reducible rfl
   rotate_left
   ·simp only [Act.put, sA, sZ, sS, i64_w, i32_w]
    rfl
   refine pure_ (i := 4) (N := some 38) (v := ?_) (a' := ?_) #[Y,Y,Y,Y,Y,U,U,U,U,U,U,U,U,U] rfl rfl (any_of HT_.out (by kernel_rfl)) (fun _ _ _ h => h) (Or.inl ⟨by rfl, ?_⟩) ?_ ?_
   rotate_left
   ·intro w'
    go_simp
    with_reducible rfl
   rotate_left
   ·simp only [Act.put, sA, sZ, sS, i64_w, i32_w]
    rfl
   refine pure_ (i := 6) (N := some 40) (v := ?_) (a' := ?_) #[Y,Y,Y,Y,Y,U,Y,U,U,U,U,U,U,U] rfl rfl (any_of HT_.out (by kernel_rfl)) (fun _ _ _ h => h) (Or.inl ⟨by rfl, ?_⟩) ?_ ?_
   rotate_left
   ·intro w'
    go_simp
    with_reducible rfl
   rotate_left
   ·simp only [Act.put, sA, sZ, sS, i64_w, i32_w]
    rfl
   refine pure_ (i := 7) (N := some 41) (v := ?_) (a' := ?_) #[Y,Y,Y,Y,Y,U,Y,Y,U,U,U,U,U,U] rfl rfl (any_of HT_.out (by kernel_rfl)) (fun _ _ _ h => h) (Or.inl ⟨by rfl, ?_⟩) ?_ ?_
   rotate_left
   ·intro w'
    go_simp
    with_reducible rfl
   rotate_left
   ·simp only [Act.put, sA, sZ, sS, i64_w, i32_w]
    rfl
   refine pure_ (i := 8) (N := some 42) (v := ?_) (a' := ?_) #[Y,Y,Y,Y,Y,U,Y,Y,Y,U,U,U,U,U] rfl rfl (any_of HT_.out (by kernel_rfl)) (fun _ _ _ h => h) (Or.inl ⟨by rfl, ?_⟩) ?_ ?_
   rotate_left
   ·intro w'
    go_simp
    with_reducible rfl
   rotate_left
   ·simp only [Act.put, sA, sZ, sS, i64_w, i32_w]
    rfl
   refine pure_ (i := 9) (N := some 43) (v := ?_) (a' := ?_) #[Y,Y,Y,Y,Y,U,Y,Y,Y,Y,U,U,U,U] rfl rfl (any_of HT_.out (by kernel_rfl)) (fun _ _ _ h => h) (Or.inl ⟨by rfl, ?_⟩) ?_ ?_
   rotate_left
   ·intro w'
    go_simp
    with_reducible rfl
   rotate_left
   ·simp only [Act.put, sA, sZ, sS, i64_w, i32_w]
    rfl
   refine pure_ (i := 10) (N := some 44) (v := ?_) (a' := ?_) #[Y,Y,Y,Y,Y,U,Y,Y,Y,Y,Y,U,U,U] rfl rfl (any_of HT_.out (by kernel_rfl)) (fun _ _ _ h => h) (Or.inl ⟨by rfl, ?_⟩) ?_ ?_
   rotate_left
   ·intro w'
    go_simp
    with_reducible rfl
   rotate_left
   ·simp only [Act.put, sA, sZ, sS, i64_w, i32_w]
    rfl
   refine one_ (i := 5) (N := some 39) #[Y,Y,Y,Y,Y,Y,Y,Y,Y,Y,Y,U,U,U] rfl rfl (one_of HT_.out (by kernel_rfl)) (by decide) (fun K hK => ?_)
   refine goes_ Try.func77 (by kernel_rfl) rfl #[.slice Ao52 y306.length co52, .int .i64 a1, .int .i64 a2] (by rfl) rfl rfl xR ?_
   with_reducible refine (impl_others.calls kj5 _ _ y306 a1 a2 t311 _ ?side1 ?side2 A24.out).mono ?_
   (case side1 => repeat (first | exact (Kd.V_reads' HO310.out).2.2 | (with_reducible refine Kd.C_alloc ?_ _) | (with_reducible refine Kd.C_drewN ?_ _) | (with_reducible refine Kd.C_drew ?_)))
   (case side2 => exact (Kd.V_reads' HO310.out).2.1)
   rintro e w54 ⟨v312, rfl, ho0, hb⟩
   refine ⟨_, rfl, ?_⟩
   have n0_ := aM (Kd.R_elder' (kr HO_10.out) (Kd.R_base ho0) hb)
   have n1_ := aM (Kd.V_elder' (by (with_reducible repeat (first | apply Kd.V_alloc | apply Kd.V_drewN | apply Kd.V_drew)); exact HO310.out) (Kd.R_base ho0) hb)
   have n2_ := aM (Kd.V_elder' (by (with_reducible repeat (first | apply Kd.V_alloc | apply Kd.V_drewN | apply Kd.V_drew)); exact HO318.out) (Kd.R_base ho0) hb)
   have n3_ := aM (Kd.R_lower (Kd.R_newB (Kd.R_new' ho0 (Kd.R_lt (kr HO_10.out))) (g := gb300) (o := .cells #[.int .i64 a1, .int .i64 a2, .int .i64 a3, .int .i64 20] 40 (0, 0)) (bk BK300.out)) (below_size (bl HB.out)))
   have n4_ := aM (bB (g := gb300) (o := .cells #[.int .i64 a1, .int .i64 a2, .int .i64 a3, .int .i64 20] 40 (0, 0)) (bk BK300.out) hb)
   have n5_ := aM (bS (bl HB.out) hb)
   clear HO_10 HO310
   clear HO318 BK300 HB
   have HO_10 := n0_
   have HO310 := n1_
   have HO318 := n2_
   have HO313 := n3_
   have BK300 := n4_
   have HB := n5_
   clear n0_ n1_ n2_ n3_ n4_ n5_
   (try clear hb)
   (try clear hb2)
   (try clear hk)
   (try clear hi)
   (try clear ho0)
   refine hK.out _ _ trivial (fun hHeld => ?_)
   clear hK K
   refine norm_ (a' := ?_) ?_ ?_
   rotate_left
   ·show Act.put _ (some 39) _ = _
    simp only [Act.put, sA, sZ, sS, i64_w, i32_w]
    rfl
   refine one_ (i := 11) (N := some 45) #[Y,Y,Y,Y,Y,Y,Y,Y,Y,Y,Y,Y,U,U] rfl rfl (one_of HT_.out (by kernel_rfl)) (by decide) (fun K hK => ?_)
   refine goes_ Try.func77 (by kernel_rfl) rfl #[.slice A53 y314.length c53, .int .i64 a1, .int .i64 a2] (by rfl) rfl rfl xR ?_
   with_reducible refine (impl_others.calls kj5 _ _ y314 a1 a2 t319 _ ?side1 ?side2 A27.out).mono ?_
   (case side1 => repeat (first | exact (Kd.V_reads' HO318.out).2.2 | (with_reducible refine Kd.C_alloc ?_ _) | (with_reducible refine Kd.C_drewN ?_ _) | (with_reducible refine Kd.C_drew ?_)))
   (case side2 => exact (Kd.V_reads' HO318.out).2.1)
   rintro e w55 ⟨v320, rfl, ho0, hb⟩
   refine ⟨_, rfl, ?_⟩
   have n0_ := aM (Kd.R_elder' (kr HO_10.out) (Kd.R_base ho0) hb)
   have n1_ := aM (Kd.V_elder' (by (with_reducible repeat (first | apply Kd.V_alloc | apply Kd.V_drewN | apply Kd.V_drew)); exact HO310.out) (Kd.R_base ho0) hb)
   have n2_ := aM (Kd.V_elder' (by (with_reducible repeat (first | apply Kd.V_alloc | apply Kd.V_drewN | apply Kd.V_drew)); exact HO318.out) (Kd.R_base ho0) hb)
   have n3_ := aM (Kd.R_elder' (kr HO313.out) (Kd.R_base ho0) hb)
   have n4_ := aM (Kd.R_lower (Kd.R_newB (Kd.R_new' (Kd.R_new' ho0 (Kd.R_lt (kr HO_10.out))) (Kd.R_lt (kr HO313.out))) (g := gb300) (o := .cells #[.int .i64 a1, .int .i64 a2, .int .i64 a3, .int .i64 20] 40 (0, 0)) (bk BK300.out)) (below_size (bl HB.out)))
   have n5_ := aM (bB (g := gb300) (o := .cells #[.int .i64 a1, .int .i64 a2, .int .i64 a3, .int .i64 20] 40 (0, 0)) (bk BK300.out) hb)
   have n6_ := aM (bS (bl HB.out) hb)
   clear HO_10 HO310
   clear HO318 HO313
   clear BK300 HB
   have HO_10 := n0_
   have HO310 := n1_
   have HO318 := n2_
   have HO313 := n3_
   have HO321 := n4_
   have BK300 := n5_
   have HB := n6_
   clear n0_ n1_ n2_ n3_ n4_ n5_ n6_
   (try clear hb)
   (try clear hb2)
   (try clear hk)
   (try clear hi)
   (try clear ho0)
   refine hK.out _ _ trivial (fun hHeld => ?_)
   clear hK K
   refine norm_ (a' := ?_) ?_ ?_
   rotate_left
   ·show Act.put _ (some 45) _ = _
    simp only [Act.put, sA, sZ, sS, i64_w, i32_w]
    rfl
   refine pure_ (i := 12) (N := some 12) (v := ?_) (a' := ?_) #[Y,Y,Y,Y,Y,Y,Y,Y,Y,Y,Y,Y,Y,U] rfl rfl (any_of HT_.out (by kernel_rfl)) (fun _ _ _ h => h) (Or.inl ⟨by rfl, ?_⟩) ?_ ?_
   rotate_left
   ·intro w'
    go_simp
    with_reducible rfl
   rotate_left
   ·simp only [Act.put, sA, sZ, sS, i64_w, i32_w]
    rfl
   refine pure_ (i := 13) (N := some 13) (v := ?_) (a' := ?_) #[Y,Y,Y,Y,Y,Y,Y,Y,Y,Y,Y,Y,Y,Y] rfl rfl (any_of HT_.out (by kernel_rfl)) (fun _ _ _ h => h) (Or.inl ⟨by rfl, ?_⟩) ?_ ?_
   rotate_left
   ·intro w'
    go_simp
    with_reducible rfl
   rotate_left
   ·simp only [Act.put, sA, sZ, sS, i64_w, i32_w]
    rfl
   refine done_ (done_of HT_.out (by kernel_rfl)) ?_
   have hcz56_0 := cI BK300.out 0
   have hcz56_1 := cI BK300.out 1
   have hcz56_2 := cI BK300.out 2
   have hcz56_3 := cI BK300.out 3
   have hfz56_0 := bF BK300.out 0
   have hfz56_1 := bF BK300.out 1
   have hfz56_2 := bF BK300.out 2
   have hfz56_3 := bF BK300.out 3
   try go_wp2_with (first | ((with_reducible refine gate_dst (N := 48) rfl ?_); refine Kd.R_lit k40 _ 40 ?hg (N := 48) ?hd (xs := ([(⟨a1, a2, a3, 20⟩ : S40)] : List (S40))) (inner := [.int .i64 a1, .int .i64 a2, .int .i64 a3, .int .i64 20]) (ok := fun _ => True) (okp := fun _ => True) ?hr ?hp (fun _ hk => hk) trivial (Below.refl _ _) (Nat.le_refl _) (by simp) ?_; (case hd => rfl); (case hg => rfl); (case hr => first | (go_simp; done) | (go_simp; rfl) | (obtain ⟨A_, c_, e_⟩ := Kd.R_slice HO_10.out; subst e_; (first | (go_simp; done) | (go_simp; rfl))) | (obtain ⟨A_, c_, e_⟩ := Kd.S_slice HO_10.out; subst e_; (first | (go_simp; done) | (go_simp; rfl))) | (obtain ⟨A_, c_, e_⟩ := Kd.R_slice HO310.out; subst e_; (first | (go_simp; done) | (go_simp; rfl))) | (obtain ⟨A_, c_, e_⟩ := Kd.S_slice HO310.out; subst e_; (first | (go_simp; done) | (go_simp; rfl))) | (obtain ⟨A_, c_, e_⟩ := Kd.R_slice HO318.out; subst e_; (first | (go_simp; done) | (go_simp; rfl))) | (obtain ⟨A_, c_, e_⟩ := Kd.S_slice HO318.out; subst e_; (first | (go_simp; done) | (go_simp; rfl))) | (obtain ⟨A_, c_, e_⟩ := Kd.R_slice HO313.out; subst e_; (first | (go_simp; done) | (go_simp; rfl))) | (obtain ⟨A_, c_, e_⟩ := Kd.S_slice HO313.out; subst e_; (first | (go_simp; done) | (go_simp; rfl))) | (obtain ⟨A_, c_, e_⟩ := Kd.R_slice HO321.out; subst e_; (first | (go_simp; done) | (go_simp; rfl))) | (obtain ⟨A_, c_, e_⟩ := Kd.S_slice HO321.out; subst e_; (first | (go_simp; done) | (go_simp; rfl))) | (obtain ⟨A_, c_, e_⟩ := Kd.R_slice HO324.out; subst e_; (first | (go_simp; done) | (go_simp; rfl))) | (obtain ⟨A_, c_, e_⟩ := Kd.S_slice HO324.out; subst e_; (first | (go_simp; done) | (go_simp; rfl))) | (obtain ⟨A_, c_, e_⟩ := Kd.R_slice HO327.out; subst e_; (first | (go_simp; done) | (go_simp; rfl))) | (obtain ⟨A_, c_, e_⟩ := Kd.S_slice HO327.out; subst e_; (first | (go_simp; done) | (go_simp; rfl))) | (obtain ⟨A_, c_, e_⟩ := Kd.R_slice HO330.out; subst e_; (first | (go_simp; done) | (go_simp; rfl))) | (obtain ⟨A_, c_, e_⟩ := Kd.S_slice HO330.out; subst e_; (first | (go_simp; done) | (go_simp; rfl)))); (case hp => exact (Reps.c4 (show Kd.M k40 _ _ _ (⟨a1, a2, a3, 20⟩ : S40) [.int .i64 a1, .int .i64 a2, .int .i64 a3, .int .i64 20] from (k40_mkM _ _ _ (⟨a1, a2, a3, 20⟩ : S40) )) (Reps.none _ _))); intro v323 w57 ho58 hb hg_ hnew_; clear hg_ hnew_; (first | rw [← Ny322.out] at ho58 | (simp only [Int.reduceToNat] at ho58; rw [← Ny322.out] at ho58)); have n0_ := aM (Kd.R_elder' (kr HO_10.out) (Kd.R_base ho58) hb); have n1_ := aM (Kd.V_elder' (by (with_reducible repeat (first | apply Kd.V_alloc | apply Kd.V_drewN | apply Kd.V_drew)); exact HO310.out) (Kd.R_base ho58) hb); have n2_ := aM (Kd.V_elder' (by (with_reducible repeat (first | apply Kd.V_alloc | apply Kd.V_drewN | apply Kd.V_drew)); exact HO318.out) (Kd.R_base ho58) hb); have n3_ := aM (Kd.R_elder' (kr HO313.out) (Kd.R_base ho58) hb); have n4_ := aM (Kd.R_elder' (kr HO321.out) (Kd.R_base ho58) hb); have n5_ := aM (Kd.R_lower (Kd.R_newB (Kd.R_new' (Kd.R_new' (Kd.R_new' ho58 (Kd.R_lt (kr HO_10.out))) (Kd.R_lt (kr HO313.out))) (Kd.R_lt (kr HO321.out))) (g := gb300) (o := .cells #[.int .i64 a1, .int .i64 a2, .int .i64 a3, .int .i64 20] 40 (0, 0)) (bk BK300.out)) (below_size (bl HB.out))); have n6_ := aM (bB (g := gb300) (o := .cells #[.int .i64 a1, .int .i64 a2, .int .i64 a3, .int .i64 20] 40 (0, 0)) (bk BK300.out) hb); have n7_ := aM (bS (bl HB.out) hb); clear HO_10 HO310; clear HO318 HO313; clear HO321 BK300 HB; have HO_10 := n0_; have HO310 := n1_; have HO318 := n2_; have HO313 := n3_; have HO321 := n4_; have HO324 := n5_; have BK300 := n6_; have HB := n7_; clear n0_ n1_ n2_ n3_ n4_ n5_ n6_ n7_; clear hb ho58; obtain ⟨Ao59, co59, eo59⟩ := Kd.R_slice HO313.out; subst eo59; obtain ⟨Ao60, co60, eo60⟩ := Kd.R_slice HO324.out; subst eo60; obtain ⟨Ao61, co61, eo61⟩ := Kd.R_slice HO321.out; subst eo61) | ((with_reducible refine gate_dst (N := 50) rfl ?_); refine Kd.N_lit (Kd.slice 40 k40) _ 24 ?hg (N' := 50) ?hd (xs := ([t311, y322, t319] : List (List (S40)))) (inner := [.slice Ao59 t311.length co59, .slice Ao60 y322.length co60, .slice Ao61 t319.length co61]) (ok := (fun k_ => some k_ ≠ (.slice Ao52 t301.length co52 : Value).ownBlock ∧ k_ ≠ gb300)) (okp := (fun k_ => some k_ ≠ (.slice Ao52 t301.length co52 : Value).ownBlock ∧ k_ ≠ gb300)) ?hr ?hp (fun _ hk => hk) ((show ∀ k_, w57.heap.size ≤ k_ → (fun k_ => some k_ ≠ (.slice Ao52 t301.length co52 : Value).ownBlock ∧ k_ ≠ gb300) k_ from fun k_ hk => ⟨Kd.fresh' (Kd.R_lt (kr HO_10.out)) k_ hk, Kd.freshB (g := gb300) (o := .cells #[.int .i64 a1, .int .i64 a2, .int .i64 a3, .int .i64 20] 40 (0, 0)) (bk BK300.out) k_ hk⟩) _ (Nat.le_refl _)) (Below.refl _ _) (Nat.le_refl _) (by simp) ?_; (case hd => rfl); (case hg => rfl); (case hr => first | (go_simp; done) | (go_simp; rfl) | (obtain ⟨A_, c_, e_⟩ := Kd.R_slice HO_10.out; subst e_; (first | (go_simp; done) | (go_simp; rfl))) | (obtain ⟨A_, c_, e_⟩ := Kd.S_slice HO_10.out; subst e_; (first | (go_simp; done) | (go_simp; rfl))) | (obtain ⟨A_, c_, e_⟩ := Kd.R_slice HO310.out; subst e_; (first | (go_simp; done) | (go_simp; rfl))) | (obtain ⟨A_, c_, e_⟩ := Kd.S_slice HO310.out; subst e_; (first | (go_simp; done) | (go_simp; rfl))) | (obtain ⟨A_, c_, e_⟩ := Kd.R_slice HO318.out; subst e_; (first | (go_simp; done) | (go_simp; rfl))) | (obtain ⟨A_, c_, e_⟩ := Kd.S_slice HO318.out; subst e_; (first | (go_simp; done) | (go_simp; rfl))) | (obtain ⟨A_, c_, e_⟩ := Kd.R_slice HO313.out; subst e_; (first | (go_simp; done) | (go_simp; rfl))) | (obtain ⟨A_, c_, e_⟩ := Kd.S_slice HO313.out; subst e_; (first | (go_simp; done) | (go_simp; rfl))) | (obtain ⟨A_, c_, e_⟩ := Kd.R_slice HO321.out; subst e_; (first | (go_simp; done) | (go_simp; rfl))) | (obtain ⟨A_, c_, e_⟩ := Kd.S_slice HO321.out; subst e_; (first | (go_simp; done) | (go_simp; rfl))) | (obtain ⟨A_, c_, e_⟩ := Kd.R_slice HO324.out; subst e_; (first | (go_simp; done) | (go_simp; rfl))) | (obtain ⟨A_, c_, e_⟩ := Kd.S_slice HO324.out; subst e_; (first | (go_simp; done) | (go_simp; rfl))) | (obtain ⟨A_, c_, e_⟩ := Kd.R_slice HO327.out; subst e_; (first | (go_simp; done) | (go_simp; rfl))) | (obtain ⟨A_, c_, e_⟩ := Kd.S_slice HO327.out; subst e_; (first | (go_simp; done) | (go_simp; rfl))) | (obtain ⟨A_, c_, e_⟩ := Kd.R_slice HO330.out; subst e_; (first | (go_simp; done) | (go_simp; rfl))) | (obtain ⟨A_, c_, e_⟩ := Kd.S_slice HO330.out; subst e_; (first | (go_simp; done) | (go_simp; rfl)))); (case hp => exact (Reps.one (show Kd.FK (Kd.slice 40 k40) _ _ t311 [.slice Ao59 t311.length co59] from (Kd.FK_slice_mk (Kd.R_reads' (Kd.R_mono (ok' := (fun k_ => some k_ ≠ (.slice Ao52 t301.length co52 : Value).ownBlock ∧ k_ ≠ gb300)) (HO313.out) (fun k_ hk => ⟨hk.1.1.1.2, hk.1.1.2⟩))).2.1 (Kd.R_F (Kd.R_mono (ok' := (fun k_ => some k_ ≠ (.slice Ao52 t301.length co52 : Value).ownBlock ∧ k_ ≠ gb300)) (HO313.out) (fun k_ hk => ⟨hk.1.1.1.2, hk.1.1.2⟩))))) (Reps.one (show Kd.FK (Kd.slice 40 k40) _ _ y322 [.slice Ao60 y322.length co60] from (Kd.FK_slice_mk (Kd.R_reads' (Kd.R_mono (ok' := (fun k_ => some k_ ≠ (.slice Ao52 t301.length co52 : Value).ownBlock ∧ k_ ≠ gb300)) (HO324.out) (fun k_ hk => ⟨hk.1.1.1.2, hk.2⟩))).2.1 (Kd.R_F (Kd.R_mono (ok' := (fun k_ => some k_ ≠ (.slice Ao52 t301.length co52 : Value).ownBlock ∧ k_ ≠ gb300)) (HO324.out) (fun k_ hk => ⟨hk.1.1.1.2, hk.2⟩))))) (Reps.one (show Kd.FK (Kd.slice 40 k40) _ _ t319 [.slice Ao61 t319.length co61] from (Kd.FK_slice_mk (Kd.R_reads' (Kd.R_mono (ok' := (fun k_ => some k_ ≠ (.slice Ao52 t301.length co52 : Value).ownBlock ∧ k_ ≠ gb300)) (HO321.out) (fun k_ hk => ⟨hk.1.1.1.2, hk.1.2⟩))).2.1 (Kd.R_F (Kd.R_mono (ok' := (fun k_ => some k_ ≠ (.slice Ao52 t301.length co52 : Value).ownBlock ∧ k_ ≠ gb300)) (HO321.out) (fun k_ hk => ⟨hk.1.1.1.2, hk.1.2⟩))))) (Reps.none _ _))))); intro v326 w62 ho63 hb hg_ hnew_; clear hg_ hnew_; (first | rw [← Ny325.out] at ho63 | (simp only [Int.reduceToNat] at ho63; rw [← Ny325.out] at ho63)); have n0_ := aM (kB (kr HO_10.out) hb); have n1_ := aM (Kd.V_elder' (by (with_reducible repeat (first | apply Kd.V_alloc | apply Kd.V_drewN | apply Kd.V_drew)); exact HO310.out) (Kd.N_base ho63) hb); have n2_ := aM (Kd.V_elder' (by (with_reducible repeat (first | apply Kd.V_alloc | apply Kd.V_drewN | apply Kd.V_drew)); exact HO318.out) (Kd.N_base ho63) hb); have n3_ := aM (Kd.N_lower ho63 (below_size (bl HB.out))); have n4_ := aM (bB (g := gb300) (o := .cells #[.int .i64 a1, .int .i64 a2, .int .i64 a3, .int .i64 20] 40 (0, 0)) (bk BK300.out) hb); have n5_ := aM (bS (bl HB.out) hb); clear HO_10 HO310; clear HO318 BK300; clear HB HO313; clear HO321 HO324; have HO_10 := n0_; have HO310 := n1_; have HO318 := n2_; have HO327 := n3_; have BK300 := n4_; have HB := n5_; clear n0_ n1_ n2_ n3_ n4_ n5_; clear hb ho63; obtain ⟨Ao64, co64, eo64⟩ := Kd.N_slice HO327.out; subst eo64) | ((with_reducible refine gate_callee (f := 78) rfl ?_); refine goesL_ (some 51) rfl rfl Try.func78 (by kernel_rfl) rfl #[.slice Ao64 y325.length co64] rfl xR ?_; (with_reducible refine (impl_Heard_78.calls kj5 _ _ y325 t328 _ ?side1 ?side2 A28.out).mono ?_); (case side1 => repeat (first | exact (Kd.N_reads' HO327.out).2.2 | (with_reducible refine Kd.C_alloc ?_ _) | (with_reducible refine Kd.C_drewN ?_ _) | (with_reducible refine Kd.C_drew ?_))); (case side2 => exact (Kd.N_reads' HO327.out).2.1); rintro e w65 ⟨v329, rfl, ho0, hb⟩; refine ⟨_, rfl, ?_⟩; have n0_ := aM (Kd.R_elder' (kr HO_10.out) (Kd.R_base ho0) hb); have n1_ := aM (Kd.V_elder' (by (with_reducible repeat (first | apply Kd.V_alloc | apply Kd.V_drewN | apply Kd.V_drew)); exact HO310.out) (Kd.R_base ho0) hb); have n2_ := aM (Kd.V_elder' (by (with_reducible repeat (first | apply Kd.V_alloc | apply Kd.V_drewN | apply Kd.V_drew)); exact HO318.out) (Kd.R_base ho0) hb); have n3_ := aM (Kd.N_elder' (by (with_reducible repeat (first | apply Kd.N_alloc | apply Kd.N_drewN | apply Kd.N_drew)); exact HO327.out) (Kd.R_base ho0) hb); have n4_ := aM (Kd.R_lower (Kd.R_newB (Kd.R_new' ho0 (Kd.R_lt (kr HO_10.out))) (g := gb300) (o := .cells #[.int .i64 a1, .int .i64 a2, .int .i64 a3, .int .i64 20] 40 (0, 0)) (bk BK300.out)) (below_size (bl HB.out))); have n5_ := aM (bB (g := gb300) (o := .cells #[.int .i64 a1, .int .i64 a2, .int .i64 a3, .int .i64 20] 40 (0, 0)) (bk BK300.out) hb); have n6_ := aM (bS (bl HB.out) hb); clear HO_10 HO310; clear HO318 HO327; clear BK300 HB; have HO_10 := n0_; have HO310 := n1_; have HO318 := n2_; have HO327 := n3_; have HO330 := n4_; have BK300 := n5_; have HB := n6_; clear n0_ n1_ n2_ n3_ n4_ n5_ n6_; (try clear hb); (try clear ho0); obtain ⟨Ao66, co66, eo66⟩ := Kd.R_slice HO330.out; subst eo66) | ((with_reducible refine gate_callee (f := 26) rfl ?_); refine goesL_ (some 53) rfl rfl Try.func26 (by kernel_rfl) rfl #[.slice Ao66 t328.length co66] rfl xR ?_; (with_reducible refine (impl_TableOk.calls kj5 _ _ t328 false _ ?side1 ?side2 A29.out).mono ?_); (case side1 => repeat (first | exact (Kd.R_reads' HO330.out).2.2 | (with_reducible refine Kd.C_alloc ?_ _) | (with_reducible refine Kd.C_drewN ?_ _) | (with_reducible refine Kd.C_drew ?_))); (case side2 => exact (Kd.R_reads' HO330.out).2.1); rintro e w67 ⟨rfl, hb⟩; refine ⟨_, rfl, ?_⟩; have n0_ := aM (kB (kr HO_10.out) hb); have n1_ := aM (Kd.V_below (by (with_reducible repeat (first | apply Kd.V_alloc | apply Kd.V_drewN | apply Kd.V_drew)); exact HO310.out) hb); have n2_ := aM (Kd.V_below (by (with_reducible repeat (first | apply Kd.V_alloc | apply Kd.V_drewN | apply Kd.V_drew)); exact HO318.out) hb); have n3_ := aM (Kd.N_below (by (with_reducible repeat (first | apply Kd.N_alloc | apply Kd.N_drewN | apply Kd.N_drew)); exact HO327.out) hb); have n4_ := aM (kB (kr HO330.out) hb); have n5_ := aM (bB (g := gb300) (o := .cells #[.int .i64 a1, .int .i64 a2, .int .i64 a3, .int .i64 20] 40 (0, 0)) (bk BK300.out) hb); have n6_ := aM (bS (bl HB.out) hb); clear HO_10 HO310; clear HO318 HO327; clear HO330 BK300 HB; have HO_10 := n0_; have HO310 := n1_; have HO318 := n2_; have HO327 := n3_; have HO330 := n4_; have BK300 := n5_; have HB := n6_; clear n0_ n1_ n2_ n3_ n4_ n5_ n6_; (try clear hb)) | ((with_reducible refine gate_callee (f := 75) rfl ?_); refine goesL_ (some 56) rfl rfl Try.func75 (by kernel_rfl) rfl #[.slice A0 l0.length c0] rfl xR ?_; (with_reducible refine (impl_Heard_75.calls _ _ l0 t332 _ ?side1 ?side2 A49.out).mono ?_); (case side1 => repeat (first | exact (cB HR0.out HB.out) | (with_reducible refine Kd.C_alloc ?_ _) | (with_reducible refine Kd.C_drewN ?_ _) | (with_reducible refine Kd.C_drew ?_))); (case side2 => exact HC0.out); rintro e w68 ⟨v333, rfl, ho0, hb⟩; refine ⟨_, rfl, ?_⟩; have n0_ := aM (Kd.R_elder' (kr HO_10.out) (Kd.R_base ho0) hb); have n1_ := aM (Kd.V_elder' (by (with_reducible repeat (first | apply Kd.V_alloc | apply Kd.V_drewN | apply Kd.V_drew)); exact HO310.out) (Kd.R_base ho0) hb); have n2_ := aM (Kd.V_elder' (by (with_reducible repeat (first | apply Kd.V_alloc | apply Kd.V_drewN | apply Kd.V_drew)); exact HO318.out) (Kd.R_base ho0) hb); have n3_ := aM (Kd.N_elder' (by (with_reducible repeat (first | apply Kd.N_alloc | apply Kd.N_drewN | apply Kd.N_drew)); exact HO327.out) (Kd.R_base ho0) hb); have n4_ := aM (Kd.R_elder' (kr HO330.out) (Kd.R_base ho0) hb); have n5_ := aM (Kd.R_lower (Kd.R_newB (Kd.R_new' (Kd.R_new' ho0 (Kd.R_lt (kr HO_10.out))) (Kd.R_lt (kr HO330.out))) (g := gb300) (o := .cells #[.int .i64 a1, .int .i64 a2, .int .i64 a3, .int .i64 20] 40 (0, 0)) (bk BK300.out)) (below_size (bl HB.out))); have n6_ := aM (bB (g := gb300) (o := .cells #[.int .i64 a1, .int .i64 a2, .int .i64 a3, .int .i64 20] 40 (0, 0)) (bk BK300.out) hb); have n7_ := aM (bS (bl HB.out) hb); clear HO_10 HO310; clear HO318 HO327; clear HO330 BK300 HB; have HO_10 := n0_; have HO310 := n1_; have HO318 := n2_; have HO327 := n3_; have HO330 := n4_; have HO334 := n5_; have BK300 := n6_; have HB := n7_; clear n0_ n1_ n2_ n3_ n4_ n5_ n6_ n7_; (try clear hb); (try clear ho0)))
   go_ret
   exact ⟨_, xW, by (with_reducible repeat (first | apply Kd.R_alloc | apply Kd.R_drewN | apply Kd.R_drew)); exact Kd.R_mono HO334.out (fun _ hk => trivial), bl HB.out⟩

end Go.Proofs.Ytjaldondohddpaa.PFnTables
