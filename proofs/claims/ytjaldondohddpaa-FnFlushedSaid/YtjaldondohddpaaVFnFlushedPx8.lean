/- Of the proof of laws.FnFlushed: a part. No condition beyond what its theorems say. -/
import Derived.Test.YtjaldondohddpaaVFnFlushedPx0
import Derived.Test.YtjaldondohddpaaVFnFlushedPx4
import Derived.Test.YtjaldondohddpaaVFnFlushedPx7
namespace Go.Proofs.Ytjaldondohddpaa.PFnFlushed
open Go.RowKit Go.Proofs.YtjaldondohddpaaW.PrintWords Go.Proofs.YtjaldondohddpaaW.PrintLast Go.Proofs.YtjaldondohddpaaW.PrintMore
attribute [local go_sem] max2_int min2_int max_two min_two max_three min_three max_four min_four   -- for this text's walks alone
set_option linter.unusedVariables false
set_option linter.unusedSimpArgs false

def spec_l5DrawRight.l0 : Nat → Int → Int → List Int → Int → Int → List Bool → List (S129) → Option (List Bool × (List (S129)) × (List (S40)) × Int × Int)
 | 0, _, _, _, _, _, _, _ => none
 | k + 1, x4, x5, x1000, x1001, x1002, x294000, x294001 => if x5 < x4 then ((spec_l1Once.f x1000 x1001 x1002 4).bind fun bt297 => (if x294000.length < 140737488355328 then ((spec_l4DrawRight.f k x1000 bt297.2.1 bt297.2.2).bind fun bt303 => (if x294001.length < 4398046511104 then (spec_l5DrawRight.l0 k x4 (wrap64 (x5 + 1)) x1000 bt303.2.2.1 bt303.2.2.2 (x294000 ++ [!bt297.1]) (x294001 ++ [(⟨bt303.1, bt303.2.1⟩ : S129)])) else (none))) else (none))) else ((spec_l3DrawRight.f k x1000 x1001 x1002).bind fun bt312 => (some (x294000, x294001, bt312.1, bt312.2.1, bt312.2.2)))
def spec_l5DrawRight.f (k : Nat) (s0_0 : List Int) (s0_1 : Int) (s0_2 : Int) : Option (List Bool × (List (S129)) × (List (S40)) × Int × Int) := (spec_l1Below.f s0_0 s0_1 s0_2 4).bind fun bt294 => (spec_l5DrawRight.l0 k (wrap64 (1 + bt294.1)) 0 s0_0 bt294.2.1 bt294.2.2 ([] : List Bool) ([] : List (S129)))
theorem spec_l5DrawRight.mono_l : ∀ k, (∀ y0 y1 y2 y3 y4 y5 y6, LeO (spec_l5DrawRight.l0 k y0 y1 y2 y3 y4 y5 y6) (spec_l5DrawRight.l0 (k + 1) y0 y1 y2 y3 y4 y5 y6))
 | 0 => fun _ _ _ _ _ _ _ r h => by simp [spec_l5DrawRight.l0] at h
 | k + 1 => by
  have ih0 := spec_l5DrawRight.mono_l k
  ·intro y0 y1 y2 y3 y4 y5 y6
   unfold spec_l5DrawRight.l0
   repeat' first
   | (with_reducible exact ih0 _ _ _ _ _ _ _)
   | (with_reducible exact spec_l3DrawRight.mono _ _ _ _)
   | (with_reducible exact spec_l4DrawRight.mono _ _ _ _)
   | (with_reducible exact LeO.refl _)
   | (with_reducible exact LeO.none _)
   | (with_reducible refine LeO.ite ?_ ?_)
   | (with_reducible refine LeO.bind ?_ (fun _ => ?_))
   | exact ih0 _ _ _ _ _ _ _
   | exact spec_l3DrawRight.mono _ _ _ _
   | exact spec_l4DrawRight.mono _ _ _ _
   | exact LeO.none _
   | refine LeO.ite ?_ ?_
   | refine LeO.bind ?_ (fun _ => ?_)
theorem spec_l5DrawRight.mono : ∀ a0 a1 a2 k, LeO (spec_l5DrawRight.f k a0 a1 a2) (spec_l5DrawRight.f (k + 1) a0 a1 a2) := by
 intro a0 a1 a2 k
 have ih0 := spec_l5DrawRight.mono_l k
 unfold spec_l5DrawRight.f
 repeat' first
   | (with_reducible exact ih0 _ _ _ _ _ _ _)
   | (with_reducible exact spec_l3DrawRight.mono _ _ _ _)
   | (with_reducible exact spec_l4DrawRight.mono _ _ _ _)
   | (with_reducible exact LeO.refl _)
   | (with_reducible exact LeO.none _)
   | (with_reducible refine LeO.ite ?_ ?_)
   | (with_reducible refine LeO.bind ?_ (fun _ => ?_))
   | exact ih0 _ _ _ _ _ _ _
   | exact spec_l3DrawRight.mono _ _ _ _
   | exact spec_l4DrawRight.mono _ _ _ _
   | exact LeO.none _
   | refine LeO.ite ?_ ?_
   | refine LeO.bind ?_ (fun _ => ?_)
def spec_l5DrawRight.T6 : Bool × List (List Nat × List Nat) := (true, [([], []), ([0], [0]), ([], []), ([2], [2]), ([3], [3]), ([4], [4]), ([1, 5, 3], [1, 5]), ([0, 1, 2, 3, 4, 5, 6], []), ([7, 6, 6, 0, 1, 2, 3, 4, 5, 6], [6, 7])])
def spec_l5DrawRight.B6 : List Nat := [0, 1, 0, 4, 12, 28, 63, 127, 255]
theorem spec_l5DrawRight.tab6 : rtab .any (opsOf Try.f154 6) = spec_l5DrawRight.T6 := by kernel_rfl
theorem spec_l5DrawRight.bits6 : waitsOk spec_l5DrawRight.T6.2 spec_l5DrawRight.B6 = true := by kernel_rfl
def spec_l5DrawRight.T7 : Bool × List (List Nat × List Nat) := (true, [([], []), ([0], [0]), ([], []), ([2], [2]), ([3], [3]), ([1, 4, 3], [1, 4]), ([0, 1, 2, 3, 4, 5], []), ([6, 5, 5, 0, 1, 2, 3, 4, 5], [5, 6])])
def spec_l5DrawRight.B7 : List Nat := [0, 1, 0, 4, 12, 31, 63, 127]
theorem spec_l5DrawRight.tab7 : rtab .any (opsOf Try.f154 7) = spec_l5DrawRight.T7 := by kernel_rfl
theorem spec_l5DrawRight.bits7 : waitsOk spec_l5DrawRight.T7.2 spec_l5DrawRight.B7 = true := by kernel_rfl
set_option maxHeartbeats 60000000 in
set_option maxRecDepth 100000 in
theorem spec_l5DrawRight.calls (k : Nat) (g : Nat) (s0_0 : List Int) (s0_1 : Int) (s0_2 : Int) (r1 : List Bool) (r2 : List (S129)) (r3 : List (S40)) (r4 : Int) (r5 : Int) (w0 w : World) (hI : IsS152 w0 w g s0_0 s0_1 s0_2) (hB : Below w0.heap.size w0 w) (h : spec_l5DrawRight.f k s0_0 s0_1 s0_2 = some (r1, r2, r3, r4, r5)) :
  Calls Try.prog 154 #[.pointer (some ⟨g, 0, none⟩)] w fun e w' => ∃ v0_ v1_ v2_ : Value, e = .returned (.agg #[v0_, v1_, v2_]) ∧ Kd.R Kd.bool 4 w' w.heap.size (fun _ => True) v0_ r1 ∧ Kd.S k129 129 w' w.heap.size (fun _ => True) v1_ r2 ∧ Kd.R k40 40 w' w.heap.size (fun _ => True) v2_ r3 ∧ IsS152 w0 w' g s0_0 r4 r5 ∧ Below w0.heap.size w0 w' ∧ KeepBut w w' g none := by
 have hu73 := Try.underlying73
 have HI0 := aM hI
 have HK := aM (KeepBut.refl w g none)
 have HL := aM hB.size
 clear hI
 have HW0 := aM hB.size
 have HB := aM hB
 clear hB
 have H : ((spec_l1Below.f s0_0 s0_1 s0_2 4).bind fun bt294 => (spec_l5DrawRight.l0 k (wrap64 (1 + bt294.1)) 0 s0_0 bt294.2.1 bt294.2.2 ([] : List Bool) ([] : List (S129)))) = some (r1, r2, r3, r4, r5) := h
 clear h
 replace H := Option.bind_eq_some_iff.mp H
 obtain ⟨⟨t294, t295, t296⟩, A20, H⟩ := H
 replace H : (spec_l5DrawRight.l0 k (wrap64 (1 + t294)) 0 s0_0 t295 t296 ([] : List Bool) ([] : List (S129))) = some (r1, r2, r3, r4, r5) := H
 have A2 := aM A20
 clear A20
 have H' := aM H
 clear H
 go_enter Try.func154, Try.ntmps154
 go_wp2_with (first | ((with_reducible refine gate_dst (N := 2) rfl ?_); refine box_event ?hg (N := 2) ?hd (cs := #[.slice none 0 0, .slice none 0 0, .slice none 0 0]) (t := 73) ?hr ?_; (case hd => rfl); (case hg => rfl); (case hr => first | (go_simp; done) | (go_simp; rfl)); intro gb292 hg w3 hbox hb; have n0_ := aM (IsS152.below (by repeat (first | (with_reducible first | exact HI0.out | apply IsS152.alloc | apply IsS152.drewN | apply IsS152.drew | apply IsS152.set_1 | apply IsS152.set_2) | exact HI0.out)) hb); have n1_ := aM (KeepBut.trans (by repeat (first | (with_reducible first | exact HK.out | apply KeepBut.set_ | apply keep_drewN | apply keep_drew | apply keep_alloc) | exact HK.out)) (KeepBut.of_below hb g none) (.inl rfl)); have n2_ := aM (bS (by repeat (first | (with_reducible first | exact HB.out | apply below_alloc | apply pw_below_drewN | apply below_drew1 | refine below_set ?_ (IsS152.ge HI0.out)) | exact HB.out)) hb); have n3_ := aM (hbox); have n4_ := aM ((by rw [hg]; exact (keep_size (w := w) (g := g) (row := none) (by repeat (first | (with_reducible first | exact HK.out | apply KeepBut.set_ | apply keep_drewN | apply keep_drew | apply keep_alloc) | exact HK.out))) : w.heap.size ≤ gb292)); have n5_ := aM ((Nat.le_trans HW0.out (by rw [hg]; exact (keep_size (w := w) (g := g) (row := none) (by repeat (first | (with_reducible first | exact HK.out | apply KeepBut.set_ | apply keep_drewN | apply keep_drew | apply keep_alloc) | exact HK.out))) : w.heap.size ≤ gb292) : w0.heap.size ≤ gb292)); have n6_ := aM ((by rw [hg]; exact Nat.ne_of_lt (IsS152.lt (show IsS152 w0 _ g s0_0 s0_1 s0_2 from by repeat (first | (with_reducible first | exact HI0.out | apply IsS152.alloc | apply IsS152.drewN | apply IsS152.drew | apply IsS152.set_1 | apply IsS152.set_2) | exact HI0.out))) : g ≠ gb292)); have n7_ := aM ((by rw [hg]; exact Nat.ne_of_gt (IsS152.lt (show IsS152 w0 _ g s0_0 s0_1 s0_2 from by repeat (first | (with_reducible first | exact HI0.out | apply IsS152.alloc | apply IsS152.drewN | apply IsS152.drew | apply IsS152.set_1 | apply IsS152.set_2) | exact HI0.out))) : gb292 ≠ g)); clear HI0 HK HB; have HI0 := n0_; have HK := n1_; have HB := n2_; have BK292 := n3_; have GW292 := n4_; have GE292 := n5_; have NB0_292 := n6_; have NB292_0 := n7_; clear n0_ n1_ n2_ n3_ n4_ n5_ n6_ n7_; clear hb hbox hg) | ((with_reducible refine gate_dst (N := 3) rfl ?_); refine box_event ?hg (N := 3) ?hd (cs := #[.slice none 0 0, .slice none 0 0, .slice none 0 0]) (t := 73) ?hr ?_; (case hd => rfl); (case hg => rfl); (case hr => first | (go_simp; done) | (go_simp; rfl)); intro gb293 hg w4 hbox hb; have n0_ := aM (IsS152.below (by repeat (first | (with_reducible first | exact HI0.out | apply IsS152.alloc | apply IsS152.drewN | apply IsS152.drew | apply IsS152.set_1 | apply IsS152.set_2 | refine IsS152.far ?_ NB0_292.out _) | exact HI0.out)) hb); have n1_ := aM (bB (g := gb292) (o := .cells #[.slice none 0 0, .slice none 0 0, .slice none 0 0] 73 (0, 0)) (bk BK292.out) hb); have n2_ := aM (KeepBut.trans (by repeat (first | (with_reducible first | exact HK.out | apply KeepBut.set_ | apply keep_drewN | apply keep_drew | apply keep_alloc | refine keep_far ?_ GW292.out _) | exact HK.out)) (KeepBut.of_below hb g none) (.inl rfl)); have n3_ := aM (bS (by repeat (first | (with_reducible first | exact HB.out | apply below_alloc | apply pw_below_drewN | apply below_drew1 | refine below_set ?_ (IsS152.ge HI0.out) | refine below_set ?_ GE292.out) | exact HB.out)) hb); have n4_ := aM (hbox); have n5_ := aM ((by rw [hg]; exact (keep_size (w := w) (g := g) (row := none) (by repeat (first | (with_reducible first | exact HK.out | apply KeepBut.set_ | apply keep_drewN | apply keep_drew | apply keep_alloc | refine keep_far ?_ GW292.out _) | exact HK.out))) : w.heap.size ≤ gb293)); have n6_ := aM ((Nat.le_trans HW0.out (by rw [hg]; exact (keep_size (w := w) (g := g) (row := none) (by repeat (first | (with_reducible first | exact HK.out | apply KeepBut.set_ | apply keep_drewN | apply keep_drew | apply keep_alloc | refine keep_far ?_ GW292.out _) | exact HK.out))) : w.heap.size ≤ gb293) : w0.heap.size ≤ gb293)); have n7_ := aM ((by rw [hg]; exact Nat.ne_of_lt (blk_lt (g := gb292) (o := .cells #[.slice none 0 0, .slice none 0 0, .slice none 0 0] 73 (0, 0)) (bk BK292.out)) : gb292 ≠ gb293)); have n8_ := aM ((by rw [hg]; exact Nat.ne_of_gt (blk_lt (g := gb292) (o := .cells #[.slice none 0 0, .slice none 0 0, .slice none 0 0] 73 (0, 0)) (bk BK292.out)) : gb293 ≠ gb292)); have n9_ := aM ((by rw [hg]; exact Nat.ne_of_lt (IsS152.lt (show IsS152 w0 _ g s0_0 s0_1 s0_2 from by repeat (first | (with_reducible first | exact HI0.out | apply IsS152.alloc | apply IsS152.drewN | apply IsS152.drew | apply IsS152.set_1 | apply IsS152.set_2 | refine IsS152.far ?_ NB0_292.out _) | exact HI0.out))) : g ≠ gb293)); have n10_ := aM ((by rw [hg]; exact Nat.ne_of_gt (IsS152.lt (show IsS152 w0 _ g s0_0 s0_1 s0_2 from by repeat (first | (with_reducible first | exact HI0.out | apply IsS152.alloc | apply IsS152.drewN | apply IsS152.drew | apply IsS152.set_1 | apply IsS152.set_2 | refine IsS152.far ?_ NB0_292.out _) | exact HI0.out))) : gb293 ≠ g)); clear HI0 BK292; clear HK HB; have HI0 := n0_; have BK292 := n1_; have HK := n2_; have HB := n3_; have BK293 := n4_; have GW293 := n5_; have GE293 := n6_; have NB292_293 := n7_; have NB293_292 := n8_; have NB0_293 := n9_; have NB293_0 := n10_; clear n0_ n1_ n2_ n3_ n4_ n5_ n6_ n7_ n8_ n9_ n10_; clear hb hbox hg; have hnb5 := NB293_292.out; have hnc5 := NB292_293.out; have hnb6 := NB293_0.out; have hnc6 := NB0_293.out; have hcz7_0 := cI BK293.out 0; have hcz7_1 := cI BK293.out 1; have hcz7_2 := cI BK293.out 2; have hfz7_0 := bF BK293.out 0; have hfz7_1 := bF BK293.out 1; have hfz7_2 := bF BK293.out 2) | ((with_reducible refine gate_callee (f := 74) rfl ?_); refine goesL_ (some 8) rfl rfl Try.func74 (by kernel_rfl) rfl #[.pointer (some ⟨g, 0, none⟩), .int .i64 4] rfl xR ?_; (with_reducible refine (spec_l1Below.calls g s0_0 s0_1 s0_2 4 t294 t295 t296 w0 _ ?side1 ?side2 A2.out).mono ?_); (case side1 => repeat (first | (with_reducible first | exact HI0.out | apply IsS152.alloc | apply IsS152.drewN | apply IsS152.drew | apply IsS152.set_1 | apply IsS152.set_2 | refine IsS152.far ?_ NB0_292.out _ | refine IsS152.far ?_ NB0_293.out _) | exact HI0.out)); (case side2 => repeat (first | (with_reducible first | exact HB.out | apply below_alloc | apply pw_below_drewN | apply below_drew1 | refine below_set ?_ (IsS152.ge HI0.out) | refine below_set ?_ GE292.out | refine below_set ?_ GE293.out) | exact HB.out)); rintro e w8 ⟨rfl, hi, hb, hk⟩; refine ⟨_, rfl, ?_⟩; have n0_ := aM (KeepBut.blk hk (g' := gb292) (o := .cells #[.slice none 0 0, .slice none 0 0, .slice none 0 0] 73 (0, 0)) (by (with_reducible repeat (first | refine blk_drewN ?_ _ | refine blk_drew ?_ | refine blk_alloc ?_ _)); refine blk_far ?_ NB292_293.out _; (with_reducible repeat (first | refine blk_drewN ?_ _ | refine blk_drew ?_ | refine blk_alloc ?_ _)); refine blk_far ?_ NB292_293.out _; (with_reducible repeat (first | refine blk_drewN ?_ _ | refine blk_drew ?_ | refine blk_alloc ?_ _)); refine blk_far ?_ NB292_293.out _; (with_reducible repeat (first | refine blk_drewN ?_ _ | refine blk_drew ?_ | refine blk_alloc ?_ _)); exact BK292.out) NB292_0.out (by simp)); have n1_ := aM (KeepBut.blk hk (g' := gb293) (o := .cells #[.slice none 0 0, .slice none 0 0, .slice none 0 0] 73 (0, 0)) (by (with_reducible repeat (first | refine blk_drewN ?_ _ | refine blk_drew ?_ | refine blk_alloc ?_ _)); refine blk_put (cs := #[.slice none 0 0, .slice none 0 0, .slice none 0 0]) ?_ 2 _ rfl; (with_reducible repeat (first | refine blk_drewN ?_ _ | refine blk_drew ?_ | refine blk_alloc ?_ _)); refine blk_put (cs := #[.slice none 0 0, .slice none 0 0, .slice none 0 0]) ?_ 1 _ rfl; (with_reducible repeat (first | refine blk_drewN ?_ _ | refine blk_drew ?_ | refine blk_alloc ?_ _)); refine blk_put (cs := #[.slice none 0 0, .slice none 0 0, .slice none 0 0]) ?_ 0 _ rfl; (with_reducible repeat (first | refine blk_drewN ?_ _ | refine blk_drew ?_ | refine blk_alloc ?_ _)); exact BK293.out) NB293_0.out (by simp)); have n2_ := aM (KeepBut.trans (by repeat (first | (with_reducible first | exact HK.out | apply KeepBut.set_ | apply keep_drewN | apply keep_drew | apply keep_alloc | refine keep_far ?_ GW292.out _ | refine keep_far ?_ GW293.out _) | exact HK.out)) hk (.inl rfl)); have n3_ := aM (hb); have n4_ := aM (hi); clear BK292 BK293; clear HK HB HI0; have BK292 := n0_; have BK293 := n1_; have HK := n2_; have HB := n3_; have HI0 := n4_; clear n0_ n1_ n2_ n3_ n4_; (try clear hb); (try clear hk); (try clear hi)))
 go_loopg [5] k (fun kq v5 w' => ∃ (x5_1 : Int) (x1001_1 : Int) (x1002_1 : Int) (x294000_1 : List Bool) (x294001_1 : List (S129)) (u294000 : Value) (u294001 : Value), v5 = .int .i64 x5_1 ∧ Aside0 (spec_l5DrawRight.l0 kq (wrap64 (1 + t294)) x5_1 s0_0 x1001_1 x1002_1 x294000_1 x294001_1 = some (r1, r2, r3, r4, r5)) ∧ Aside0 (kq ≤ k) ∧ Aside0 (Kd.R Kd.bool 4 w' w.heap.size (fun _ => True) u294000 x294000_1) ∧ Aside0 (Kd.S k129 129 w' w.heap.size (fun _ => True) u294001 x294001_1) ∧ Aside0 (w'.heap[gb292]? = some (.cells #[(.slice none 0 0), (.slice none 0 0), (.slice none 0 0)] 73 (0, 0))) ∧ Aside0 (w'.heap[gb293]? = some (.cells #[u294000, u294001, (.slice none 0 0)] 73 (0, 0))) ∧ Aside0 (IsS152 w0 w' g s0_0 x1001_1 x1002_1) ∧ Aside0 (KeepBut w w' g none) ∧ Aside0 (Below w0.heap.size w0 w'))
 case atStart => exact ⟨(0), (t295), (t296), (([] : List Bool)), (([] : List (S129))), (.slice none 0 0), (.slice none 0 0), xE, H', ⟨Nat.le_refl _⟩, ⟨by first | exact Kd.R_nil _ _ _ _ _ | exact Kd.N_nil _ _ _ _ _ | exact Kd.V_nil _ _ _ _ _ | exact Kd.Q_nil _ _ _ _ _ | exact Kd.S_nil _ _ _ _ _⟩, ⟨by first | exact Kd.S_nil _ _ _ _ _ | exact Kd.N_nil _ _ _ _ _ | exact Kd.V_nil _ _ _ _ _ | exact Kd.Q_nil _ _ _ _ _ | exact Kd.R_nil _ _ _ _ _⟩, ⟨by (with_reducible repeat (first | refine blk_drewN ?_ _ | refine blk_drew ?_ | refine blk_alloc ?_ _)); exact BK292.out⟩, ⟨by (with_reducible repeat (first | refine blk_drewN ?_ _ | refine blk_drew ?_ | refine blk_alloc ?_ _)); exact BK293.out⟩, ⟨by repeat (first | (with_reducible first | exact HI0.out | apply IsS152.alloc | apply IsS152.drewN | apply IsS152.drew | apply IsS152.set_1 | apply IsS152.set_2 | refine IsS152.far ?_ NB0_292.out _ | refine IsS152.far ?_ NB0_293.out _) | exact HI0.out)⟩, ⟨by repeat (first | (with_reducible first | exact HK.out | apply KeepBut.set_ | apply keep_drewN | apply keep_drew | apply keep_alloc | refine keep_far ?_ GW292.out _ | refine keep_far ?_ GW293.out _) | exact HK.out)⟩, ⟨by repeat (first | (with_reducible first | exact HB.out | apply below_alloc | apply pw_below_drewN | apply below_drew1 | refine below_set ?_ (IsS152.ge HI0.out) | refine below_set ?_ GE292.out | refine below_set ?_ GE293.out) | exact HB.out)⟩⟩
 case round =>
  clear H'
  try clear c1
  try clear p2
  try clear c5
  try clear c6
  try clear p6
  try clear c7
  try clear hcz7_0
  try clear hcz7_1
  try clear hcz7_2
  try clear hfz7_0
  try clear hfz7_1
  try clear hfz7_2
  obtain ⟨x5_1, x1001_1, x1002_1, x294000_1, x294001_1, u294000, u294001, rfl, HA, HK1, HO_294000, HO_294001, BK292, BK293, HI0, HK, HB⟩ := hrel
  cases gk with
  | zero => exact absurd HA.out (by simp [spec_l5DrawRight.l0])
  | succ k1 =>
   have H := HA.out
   clear HA
   simp only [spec_l5DrawRight.l0] at H
   by_cases c9 : x5_1 < (wrap64 (1 + t294))
   case neg =>
    rw [if_neg c9] at H
    have c9b0 : decide (x5_1 < (wrap64 (1 + t294))) = false := decide_eq_false c9
    clear c9
    replace H := Option.bind_eq_some_iff.mp H
    obtain ⟨⟨t312, t315, t316⟩, A260, H⟩ := H
    replace H : (some (x294000_1, x294001_1, t312, t315, t316)) = some (r1, r2, r3, r4, r5) := H
    have A26 := aM A260
    clear A260
    simp only [Option.some.injEq, Prod.mk.injEq] at H
    obtain ⟨rfl, rfl, rfl, rfl, rfl⟩ := H
    go_wp2_with (first | ((with_reducible refine gate_callee (f := 130) rfl ?_); refine goesL_ (some 31) rfl rfl Try.func130 (by kernel_rfl) rfl #[.pointer (some ⟨g, 0, none⟩)] rfl xR ?_; (with_reducible refine (spec_l3DrawRight.calls k1 g s0_0 x1001_1 x1002_1 t312 t315 t316 w0 _ ?side1 ?side2 A26.out).mono ?_); (case side1 => repeat (first | (with_reducible first | exact HI0.out | apply IsS152.alloc | apply IsS152.drewN | apply IsS152.drew | apply IsS152.set_1 | apply IsS152.set_2 | refine IsS152.far ?_ NB0_292.out _ | refine IsS152.far ?_ NB0_293.out _) | exact HI0.out)); (case side2 => repeat (first | (with_reducible first | exact HB.out | apply below_alloc | apply pw_below_drewN | apply below_drew1 | refine below_set ?_ (IsS152.ge HI0.out) | refine below_set ?_ GE292.out | refine below_set ?_ GE293.out) | exact HB.out)); rintro e w27 ⟨v313, rfl, ho0, hi, hb, hk⟩; refine ⟨_, rfl, ?_⟩; have n0_ := aM (Kd.R_mono (Kd.R_keep (IsS152.apart (show IsS152 w0 _ g s0_0 x1001_1 x1002_1 from by repeat (first | (with_reducible first | exact HI0.out | apply IsS152.alloc | apply IsS152.drewN | apply IsS152.drew | apply IsS152.set_1 | apply IsS152.set_2 | refine IsS152.far ?_ NB0_292.out _ | refine IsS152.far ?_ NB0_293.out _) | exact HI0.out)) (kr HO_294000.out) (by decide)) hk (fun _ h => h.2)) (fun _ h => h.1)); have n1_ := aM (Kd.S_mono (Kd.S_keep (IsS152.apartS (show IsS152 w0 _ g s0_0 x1001_1 x1002_1 from by repeat (first | (with_reducible first | exact HI0.out | apply IsS152.alloc | apply IsS152.drewN | apply IsS152.drew | apply IsS152.set_1 | apply IsS152.set_2 | refine IsS152.far ?_ NB0_292.out _ | refine IsS152.far ?_ NB0_293.out _) | exact HI0.out)) (by (with_reducible repeat (first | apply Kd.S_alloc | apply Kd.S_drewN | apply Kd.S_drew)); exact HO_294001.out) (by decide)) hk (fun _ h => h.2)) (fun _ h => h.1)); have n2_ := aM (KeepBut.blk hk (g' := gb292) (o := .cells #[.slice none 0 0, .slice none 0 0, .slice none 0 0] 73 (0, 0)) (bk BK292.out) NB292_0.out (by simp)); have n3_ := aM (KeepBut.blk hk (g' := gb293) (o := .cells #[u294000, u294001, .slice none 0 0] 73 (0, 0)) (bk BK293.out) NB293_0.out (by simp)); have n4_ := aM (Kd.R_lower ho0 (keep_size (w := w) (g := g) (row := none) (by repeat (first | (with_reducible first | exact HK.out | apply KeepBut.set_ | apply keep_drewN | apply keep_drew | apply keep_alloc | refine keep_far ?_ GW292.out _ | refine keep_far ?_ GW293.out _) | exact HK.out)))); have n5_ := aM (KeepBut.trans (by repeat (first | (with_reducible first | exact HK.out | apply KeepBut.set_ | apply keep_drewN | apply keep_drew | apply keep_alloc | refine keep_far ?_ GW292.out _ | refine keep_far ?_ GW293.out _) | exact HK.out)) hk (.inl rfl)); have n6_ := aM (hb); have n7_ := aM (hi); clear HO_294000 HO_294001; clear BK292 BK293; clear HK HB HI0; have HO_294000 := n0_; have HO_294001 := n1_; have BK292 := n2_; have BK293 := n3_; have HO314 := n4_; have HK := n5_; have HB := n6_; have HI0 := n7_; clear n0_ n1_ n2_ n3_ n4_ n5_ n6_ n7_; (try clear hb); (try clear hk); (try clear hi); (try clear ho0); obtain ⟨Ao28, co28, eo28⟩ := Kd.R_slice HO314.out; subst eo28; have hnb29 := NB293_292.out; have hnc29 := NB292_293.out; have hnb30 := NB293_0.out; have hnc30 := NB0_293.out; have hcz31_0 := cI BK293.out 0; have hcz31_1 := cI BK293.out 1; have hcz31_2 := cI BK293.out 2; have hfz31_0 := bF BK293.out 0; have hfz31_1 := bF BK293.out 1; have hfz31_2 := bF BK293.out 2; obtain ⟨Ao32, co32, eo32⟩ := Kd.R_slice HO_294000.out; subst eo32; have hnb33 := NB292_0.out; have hnc33 := NB0_292.out; have hcz34_0 := cI BK292.out 0; have hcz34_1 := cI BK292.out 1; have hcz34_2 := cI BK292.out 2; have hfz34_0 := bF BK292.out 0; have hfz34_1 := bF BK292.out 1; have hfz34_2 := bF BK292.out 2; obtain ⟨Ao35, co35, eo35⟩ := Kd.S_slice HO_294001.out; subst eo35))
    refine bodyPost_ret (results_cell_row rfl _ _ gb292 73 #[.slice Ao32 x294000_1.length co32, .slice Ao35 x294001_1.length co35, .slice Ao28 t312.length co28] (0, 0) _ rfl (by (with_reducible repeat (first | refine blk_drewN ?_ _ | refine blk_drew ?_ | refine blk_alloc ?_ _)); refine blk_put (cs := #[.slice Ao32 x294000_1.length co32, .slice Ao35 x294001_1.length co35, .slice none 0 0]) ?_ 2 _ rfl; (with_reducible repeat (first | refine blk_drewN ?_ _ | refine blk_drew ?_ | refine blk_alloc ?_ _)); refine blk_put (cs := #[.slice Ao32 x294000_1.length co32, .slice none 0 0, .slice none 0 0]) ?_ 1 _ rfl; (with_reducible repeat (first | refine blk_drewN ?_ _ | refine blk_drew ?_ | refine blk_alloc ?_ _)); refine blk_put (cs := #[.slice none 0 0, .slice none 0 0, .slice none 0 0]) ?_ 0 _ rfl; (with_reducible repeat (first | refine blk_drewN ?_ _ | refine blk_drew ?_ | refine blk_alloc ?_ _)); refine blk_far ?_ NB292_293.out _; (with_reducible repeat (first | refine blk_drewN ?_ _ | refine blk_drew ?_ | refine blk_alloc ?_ _)); exact BK292.out) Try.underlying73 rfl (by kernel_rfl)) rfl ?_
    exact ⟨_, _, _, xW, by (with_reducible repeat (first | apply Kd.R_alloc | apply Kd.R_drewN | apply Kd.R_drew)); exact Kd.R_mono (kF (p := ⟨gb292, 2, none⟩) (kF (p := ⟨gb292, 1, none⟩) (kF (p := ⟨gb292, 0, none⟩) (kF (p := ⟨gb293, 2, none⟩) (Kd.R_types (Kd.R_types HO_294000.out BK293.out (by decide)) BK292.out (by decide)) (fun _ hk => hk.1.2) (.slice Ao28 t312.length co28)) (fun _ hk => hk.2) (.slice Ao32 x294000_1.length co32)) (fun _ hk => hk.2) (.slice Ao35 x294001_1.length co35)) (fun _ hk => hk.2) (.slice Ao28 t312.length co28)) (fun _ hk => trivial), by (with_reducible repeat (first | apply Kd.S_alloc | apply Kd.S_drewN | apply Kd.S_drew)); exact Kd.S_mono (Kd.S_far (p := ⟨gb292, 2, none⟩) (Kd.S_far (p := ⟨gb292, 1, none⟩) (Kd.S_far (p := ⟨gb292, 0, none⟩) (Kd.S_far (p := ⟨gb293, 2, none⟩) (Kd.S_types (Kd.S_types HO_294001.out BK293.out (by decide)) BK292.out (by decide)) (fun _ hk => hk.1.2) (.slice Ao28 t312.length co28)) (fun _ hk => hk.2) (.slice Ao32 x294000_1.length co32)) (fun _ hk => hk.2) (.slice Ao35 x294001_1.length co35)) (fun _ hk => hk.2) (.slice Ao28 t312.length co28)) (fun _ hk => trivial), by (with_reducible repeat (first | apply Kd.R_alloc | apply Kd.R_drewN | apply Kd.R_drew)); exact Kd.R_mono (kF (p := ⟨gb292, 2, none⟩) (kF (p := ⟨gb292, 1, none⟩) (kF (p := ⟨gb292, 0, none⟩) (kF (p := ⟨gb293, 2, none⟩) (Kd.R_types (Kd.R_types HO314.out BK293.out (by decide)) BK292.out (by decide)) (fun _ hk => hk.1.2) (.slice Ao28 t312.length co28)) (fun _ hk => hk.2) (.slice Ao32 x294000_1.length co32)) (fun _ hk => hk.2) (.slice Ao35 x294001_1.length co35)) (fun _ hk => hk.2) (.slice Ao28 t312.length co28)) (fun _ hk => trivial), by repeat (first | (with_reducible first | exact HI0.out | apply IsS152.alloc | apply IsS152.drewN | apply IsS152.drew | apply IsS152.set_1 | apply IsS152.set_2 | refine IsS152.far ?_ NB0_292.out _ | refine IsS152.far ?_ NB0_293.out _) | exact HI0.out), by repeat (first | (with_reducible first | exact HB.out | apply below_alloc | apply pw_below_drewN | apply below_drew1 | refine below_set ?_ (IsS152.ge HI0.out) | refine below_set ?_ GE292.out | refine below_set ?_ GE293.out) | exact HB.out), by repeat (first | (with_reducible first | exact HK.out | apply KeepBut.set_ | apply keep_drewN | apply keep_drew | apply keep_alloc | refine keep_far ?_ GW292.out _ | refine keep_far ?_ GW293.out _) | exact HK.out)⟩
   rw [if_pos c9] at H
   have c9b0 : decide (x5_1 < (wrap64 (1 + t294))) = true := decide_eq_true c9
   clear c9
   replace H := Option.bind_eq_some_iff.mp H
   obtain ⟨⟨t297, t298, t299⟩, A100, H⟩ := H
   replace H : (if x294000_1.length < 140737488355328 then ((spec_l4DrawRight.f k1 s0_0 t298 t299).bind fun bt303 => (if x294001_1.length < 4398046511104 then (spec_l5DrawRight.l0 k1 (wrap64 (1 + t294)) (wrap64 (x5_1 + 1)) s0_0 bt303.2.2.1 bt303.2.2.2 (x294000_1 ++ [!t297]) (x294001_1 ++ [(⟨bt303.1, bt303.2.1⟩ : S129)])) else (none))) else (none)) = some (r1, r2, r3, r4, r5) := H
   have A10 := aM A100
   clear A100
   by_cases c11 : x294000_1.length < 140737488355328
   case neg =>
    rw [if_neg c11] at H
    exact absurd H (by simp)
   rw [if_pos c11] at H
   have LMc11 := aM c11
   clear c11
   obtain ⟨y300, hy300⟩ : ∃ y_ : List Bool, y_ = (x294000_1 ++ [!t297]) := ⟨_, rfl⟩
   replace H : ((spec_l4DrawRight.f k1 s0_0 t298 t299).bind fun bt303 => (if x294001_1.length < 4398046511104 then (spec_l5DrawRight.l0 k1 (wrap64 (1 + t294)) (wrap64 (x5_1 + 1)) s0_0 bt303.2.2.1 bt303.2.2.2 y300 (x294001_1 ++ [(⟨bt303.1, bt303.2.1⟩ : S129)])) else (none))) = some (r1, r2, r3, r4, r5) := by first | (rw [hy300]; with_reducible exact H) | (have H2_ := (Option.bind_some _ _).symm.trans H; rw [hy300]; with_reducible exact H2_) | (have H2_ := (Option.bind_some _ _).symm.trans H; with_reducible exact H2_) | with_reducible exact H | (rw [hy300]; exact H) | exact H
   have Ny300 := aM hy300
   clear hy300
   replace H := Option.bind_eq_some_iff.mp H
   obtain ⟨⟨t303, t304, t307, t308⟩, A120, H⟩ := H
   replace H : (if x294001_1.length < 4398046511104 then (spec_l5DrawRight.l0 k1 (wrap64 (1 + t294)) (wrap64 (x5_1 + 1)) s0_0 t307 t308 y300 (x294001_1 ++ [(⟨t303, t304⟩ : S129)])) else (none)) = some (r1, r2, r3, r4, r5) := H
   have A12 := aM A120
   clear A120
   by_cases c13 : x294001_1.length < 4398046511104
   case neg =>
    rw [if_neg c13] at H
    exact absurd H (by simp)
   rw [if_pos c13] at H
   have LMc13 := aM c13
   clear c13
   obtain ⟨y309, hy309⟩ : ∃ y_ : List (S129), y_ = (x294001_1 ++ [(⟨t303, t304⟩ : S129)]) := ⟨_, rfl⟩
   replace H : (spec_l5DrawRight.l0 k1 (wrap64 (1 + t294)) (wrap64 (x5_1 + 1)) s0_0 t307 t308 y300 y309) = some (r1, r2, r3, r4, r5) := by first | (rw [hy309]; with_reducible exact H) | (have H2_ := (Option.bind_some _ _).symm.trans H; rw [hy309]; with_reducible exact H2_) | (have H2_ := (Option.bind_some _ _).symm.trans H; with_reducible exact H2_) | with_reducible exact H | (rw [hy309]; exact H) | exact H
   have Ny309 := aM hy309
   clear hy309
   have H' := aM H
   clear H
   try go_wp2
   have n0_ := aM (Kd.R_drew HO_294000.out)
   have n1_ := aM (Kd.S_drew HO_294001.out)
   have n2_ := aM (blk_drew BK292.out)
   have n3_ := aM (blk_drew BK293.out)
   have n4_ := aM (IsS152.drew HI0.out)
   have n5_ := aM (keep_drew HK.out)
   have n6_ := aM (below_drew1 HB.out)
   clear HO_294000 HO_294001
   clear BK292 BK293
   clear HI0 HK HB
   have HO_294000 := n0_
   have HO_294001 := n1_
   have BK292 := n2_
   have BK293 := n3_
   have HI0 := n4_
   have HK := n5_
   have HB := n6_
   clear n0_ n1_ n2_ n3_ n4_ n5_ n6_
   refine start_ (n := 9) (S := fun w' => w'.cell? ⟨gb293, 0, none⟩ = some (u294000) ∧ w'.cell? ⟨gb293, 1, none⟩ = some (u294001) ∧ w'.cell? ⟨gb293, 2, none⟩ = some (.slice none 0 0)) (ds := [8]) #[U,U,U,U,U,U,U,U,U] (by kernel_rfl) rfl rfl ⟨cI BK293.out 0, cI BK293.out 1, cI BK293.out 2⟩ (fun hHeld => ?_); refine with_tabW spec_l5DrawRight.tab6 spec_l5DrawRight.bits6 (fun HT_ HW_ => ?_)
   generalize wr.drew = w14 at HO_294000 HO_294001 BK292 BK293 HI0 HK HB hHeld ⊢
   refine pure_ (i := 0) (N := some 15) (v := ?_) (a' := ?_) #[Y,U,U,U,U,U,U,U,U] rfl rfl (any_of HT_.out (by kernel_rfl)) (fun _ _ _ h => h) (Or.inl ⟨by rfl, ?_⟩) ?_ ?_
   rotate_left
   ·intro w'
    go_simp
    with_reducible rfl
   rotate_left
   ·simp only [Act.put, sA, sZ, sS, i64_w, i32_w]
    rfl
   refine pure_ (i := 2) (N := some 17) (v := ?_) (a' := ?_) #[Y,U,Y,U,U,U,U,U,U] rfl rfl (any_of HT_.out (by kernel_rfl)) (fun _ _ _ h => h) (Or.inl ⟨by rfl, ?_⟩) ?_ ?_
   rotate_left
   ·intro w'
    go_simp
    with_reducible rfl
   rotate_left
   ·simp only [Act.put, sA, sZ, sS, i64_w, i32_w]
    rfl
   refine take_ (i := 1) (N := some 16) (v := ?_) (a' := ?_) #[Y,Y,Y,U,U,U,U,U,U] rfl rfl (take_ofW HT_.out HW_.out (by kernel_rfl)) (fun _ _ _ h => h) (Or.inl ⟨by rfl, ?_⟩) hHeld ?_ ?_
   rotate_left
   ·rintro w' ⟨s0, s1, s2⟩
    go_simp
    with_reducible rfl
   rotate_left
   ·simp only [Act.put, sA, sZ, sS, i64_w, i32_w]
    rfl
   refine one_ (i := 3) (N := some 18) #[Y,Y,Y,Y,U,U,U,U,U] rfl rfl (one_of HT_.out (by kernel_rfl)) (by decide) (fun K hK => ?_)
   refine goes_ Try.func79 (by kernel_rfl) rfl #[.pointer (some ⟨g, 0, none⟩), .int .i64 4] (by rfl) rfl rfl xR ?_
   with_reducible refine (spec_l1Once.calls g s0_0 x1001_1 x1002_1 4 t297 t298 t299 w0 _ ?side1 ?side2 A10.out).mono ?_
   (case side1 => repeat (first | (with_reducible first | exact HI0.out | apply IsS152.alloc | apply IsS152.drewN | apply IsS152.drew | apply IsS152.set_1 | apply IsS152.set_2 | refine IsS152.far ?_ NB0_292.out _ | refine IsS152.far ?_ NB0_293.out _) | exact HI0.out))
   (case side2 => repeat (first | (with_reducible first | exact HB.out | apply below_alloc | apply pw_below_drewN | apply below_drew1 | refine below_set ?_ (IsS152.ge HI0.out) | refine below_set ?_ GE292.out | refine below_set ?_ GE293.out) | exact HB.out))
   rintro e w15 ⟨rfl, hi, hb, hk⟩
   refine ⟨_, rfl, ?_⟩
   have n0_ := aM (Kd.R_mono (Kd.R_keep (IsS152.apart (show IsS152 w0 _ g s0_0 x1001_1 x1002_1 from by repeat (first | (with_reducible first | exact HI0.out | apply IsS152.alloc | apply IsS152.drewN | apply IsS152.drew | apply IsS152.set_1 | apply IsS152.set_2 | refine IsS152.far ?_ NB0_292.out _ | refine IsS152.far ?_ NB0_293.out _) | exact HI0.out)) (kr HO_294000.out) (by decide)) hk (fun _ h => h.2)) (fun _ h => h.1))
   have n1_ := aM (Kd.S_mono (Kd.S_keep (IsS152.apartS (show IsS152 w0 _ g s0_0 x1001_1 x1002_1 from by repeat (first | (with_reducible first | exact HI0.out | apply IsS152.alloc | apply IsS152.drewN | apply IsS152.drew | apply IsS152.set_1 | apply IsS152.set_2 | refine IsS152.far ?_ NB0_292.out _ | refine IsS152.far ?_ NB0_293.out _) | exact HI0.out)) (by (with_reducible repeat (first | apply Kd.S_alloc | apply Kd.S_drewN | apply Kd.S_drew)); exact HO_294001.out) (by decide)) hk (fun _ h => h.2)) (fun _ h => h.1))
   have n2_ := aM (KeepBut.blk hk (g' := gb292) (o := .cells #[.slice none 0 0, .slice none 0 0, .slice none 0 0] 73 (0, 0)) (bk BK292.out) NB292_0.out (by simp))
   have n3_ := aM (KeepBut.blk hk (g' := gb293) (o := .cells #[u294000, u294001, .slice none 0 0] 73 (0, 0)) (bk BK293.out) NB293_0.out (by simp))
   have n4_ := aM (KeepBut.trans (by repeat (first | (with_reducible first | exact HK.out | apply KeepBut.set_ | apply keep_drewN | apply keep_drew | apply keep_alloc | refine keep_far ?_ GW292.out _ | refine keep_far ?_ GW293.out _) | exact HK.out)) hk (.inl rfl))
   have n5_ := aM (hb)
   have n6_ := aM (hi)
   clear HO_294000 HO_294001
   clear BK292 BK293
   clear HK HB HI0
   have HO_294000 := n0_
   have HO_294001 := n1_
   have BK292 := n2_
   have BK293 := n3_
   have HK := n4_
   have HB := n5_
   have HI0 := n6_
   clear n0_ n1_ n2_ n3_ n4_ n5_ n6_
   (try clear hb)
   (try clear hb2)
   (try clear hk)
   (try clear hi)
   refine hK.out _ _ ⟨cI BK293.out 0, cI BK293.out 1, cI BK293.out 2⟩ (fun hHeld => ?_)
   clear hK K
   refine norm_ (a' := ?_) ?_ ?_
   rotate_left
   ·show Act.put _ (some 18) _ = _
    simp only [Act.put, sA, sZ, sS, i64_w, i32_w]
    rfl
   refine pure_ (i := 4) (N := some 19) (v := ?_) (a' := ?_) #[Y,Y,Y,Y,Y,U,U,U,U] rfl rfl (any_of HT_.out (by kernel_rfl)) (fun _ _ _ h => h) (Or.inl ⟨by rfl, ?_⟩) ?_ ?_
   rotate_left
   ·intro w'
    go_simp
    with_reducible rfl
   rotate_left
   ·simp only [Act.put, sA, sZ, sS, i64_w, i32_w]
    rfl
   refine one_ (i := 5) (N := some 20) #[Y,Y,Y,Y,Y,Y,U,U,U] rfl rfl (one_of HT_.out (by kernel_rfl)) (by decide) (fun K hK => ?_)
   refine value_ (w1 := ?_) (v := ?_) (by rfl) rfl ?_ ?_
   rotate_left 2
   ·go_simp
    constructor
    ·rfl
    ·rfl
   refine hK.out _ _ ⟨(bC (blk_alloc BK293.out _) 0).trans rfl, (bC (blk_alloc BK293.out _) 1).trans rfl, (bC (blk_alloc BK293.out _) 2).trans rfl⟩ (fun hHeld => ?_)
   clear hK K
   refine norm_ (a' := ?_) ?_ ?_
   rotate_left
   ·show Act.put _ (some 20) _ = _
    simp only [Act.put, sA, sZ, sS, i64_w, i32_w]
    rfl
   refine one_ (i := 6) (N := some 21) #[Y,Y,Y,Y,Y,Y,Y,U,U] rfl rfl (one_of HT_.out (by kernel_rfl)) (by decide) (fun K hK => ?_)
   refine Kd.R_append_step Kd.bool w.heap.size (by rfl) (.tmp 16) (.tmp 20) 64 4 (.bool false) 1 rfl Try.underlying64 info4 rfl (by decide) (by omega) u294000 x294000_1 (!t297) [.bool (!t297)] (fun _ => True) (fun _ => False) rfl rfl ?aP (fun _ hk => hk.elim) ?aF ?aO (Below.refl _ _) ?aS ?aL ?_
   (case aP => exact rfl)
   (case aF => exact (fun _ _ => trivial))
   (case aO => exact (kr HO_294000.out))
   (case aS => exact (keep_size (w := w) (g := g) (row := none) (by repeat (first | (with_reducible first | exact HK.out | apply KeepBut.set_ | apply keep_drewN | apply keep_drew | apply keep_alloc | refine keep_far ?_ GW292.out _ | refine keep_far ?_ GW293.out _) | exact HK.out))))
   (case aL => have := LMc11.out; omega)
   intro v301 w16 ho hb hg hat
   rw [← Ny300.out] at ho
   have n0_ := aM (Kd.S_over' (by (with_reducible repeat (first | apply Kd.S_alloc | apply Kd.S_drewN | apply Kd.S_drew)); exact HO_294001.out) (Kd.R_typed (kr HO_294000.out)) (by decide) hg)
   have n1_ := aM (blk_grown (g := gb292) (o := .cells #[.slice none 0 0, .slice none 0 0, .slice none 0 0] 73 (0, 0)) (bk BK292.out) hg (Kd.R_ne HO_294000.out BK292.out (by decide)))
   have n2_ := aM (blk_grown (g := gb293) (o := .cells #[u294000, u294001, .slice none 0 0] 73 (0, 0)) (bk BK293.out) hg (Kd.R_ne HO_294000.out BK293.out (by decide)))
   have n3_ := aM (IsS152.grown (by repeat (first | (with_reducible first | exact HI0.out | apply IsS152.alloc | apply IsS152.drewN | apply IsS152.drew | apply IsS152.set_1 | apply IsS152.set_2 | refine IsS152.far ?_ NB0_292.out _ | refine IsS152.far ?_ NB0_293.out _) | exact HI0.out)) hg (IsS152.own_ne HI0.out HO_294000.out (by decide)))
   have n4_ := aM (below_weaken (by repeat (first | (with_reducible first | exact HB.out | apply below_alloc | apply pw_below_drewN | apply below_drew1 | refine below_set ?_ (IsS152.ge HI0.out) | refine below_set ?_ GE292.out | refine below_set ?_ GE293.out) | exact HB.out)) HL.out hb)
   have n5_ := aM (KeepBut.trans (by repeat (first | (with_reducible first | exact HK.out | apply KeepBut.set_ | apply keep_drewN | apply keep_drew | apply keep_alloc | refine keep_far ?_ GW292.out _ | refine keep_far ?_ GW293.out _) | exact HK.out)) (KeepBut.of_grown hg g) (Kd.R_base2 HO_294000.out))
   have n6_ := aM (ho)
   clear HO_294001 BK292
   clear BK293 HI0
   clear HB HK HO_294000
   have HO_294001 := n0_
   have BK292 := n1_
   have BK293 := n2_
   have HI0 := n3_
   have HB := n4_
   have HK := n5_
   have HO302 := n6_
   clear n0_ n1_ n2_ n3_ n4_ n5_ n6_
   clear ho hb hg hat
   obtain ⟨Ao17, co17, eo17⟩ := Kd.R_slice HO302.out
   (first | subst eo17 | (injection eo17 with f1_ f2_ f3_; have f4_ := f1_.symm; have f5_ := f3_.symm; clear f1_ f2_ f3_; subst f4_; subst f5_))
   refine hK.out _ _ ⟨cI BK293.out 0, cI BK293.out 1, cI BK293.out 2⟩ (fun hHeld => ?_)
   clear hK K
   refine norm_ (a' := ?_) ?_ ?_
   rotate_left
   ·show Act.put _ (some 21) _ = _
    simp only [Act.put, sA, sZ, sS, i64_w, i32_w]
    rfl
   refine pure_ (i := 7) (N := some 22) (v := ?_) (a' := ?_) #[Y,Y,Y,Y,Y,Y,Y,Y,U] rfl rfl (any_of HT_.out (by kernel_rfl)) (fun _ _ _ h => h) (Or.inl ⟨by rfl, ?_⟩) ?_ ?_
   rotate_left
   ·intro w'
    go_simp
    with_reducible rfl
   rotate_left
   ·simp only [Act.put, sA, sZ, sS, i64_w, i32_w]
    rfl
   refine last_ (i := 8) (N := none) #[Y,Y,Y,Y,Y,Y,Y,Y,Y] rfl rfl (one_of HT_.out (by kernel_rfl)) (by decide) (fun K hK => ?_)
   have hs18 := cI BK293.out 0
   have hfs18 := bF BK293.out 0
   have hns18_0 := NB292_293.out
   have hms18_0 := NB293_292.out
   refine skip_ (w1 := ?_) (by rfl) rfl ?_ ?_
   rotate_left
   ·go_simp
    rfl
   refine hK.out _ _ ?_
   clear hK K
   refine done_ (done_of HT_.out (by kernel_rfl)) ?_
   try go_wp2
   have n0_ : Aside0 (Kd.S k129 129 (w16.setCell ⟨gb293, 0, none⟩ (.slice Ao17 y300.length co17)) w.heap.size (fun _ => True) u294001 x294001_1) := ⟨by (with_reducible repeat (first | apply Kd.S_alloc | apply Kd.S_drewN | apply Kd.S_drew)); exact Kd.S_mono (Kd.S_far (p := ⟨gb293, 0, none⟩) (Kd.S_types HO_294001.out BK293.out (by decide)) (fun _ hk => hk.2) (.slice Ao17 y300.length co17)) (fun _ hk => trivial)⟩
   have n1_ : Aside0 (Kd.R Kd.bool 4 (w16.setCell ⟨gb293, 0, none⟩ (.slice Ao17 y300.length co17)) w.heap.size (fun _ => True) (.slice Ao17 y300.length co17) y300) := ⟨kr (Kd.R_mono (kF (p := ⟨gb293, 0, none⟩) (Kd.R_types HO302.out BK293.out (by decide)) (fun _ hk => hk.2) (.slice Ao17 y300.length co17)) (fun _ hk => trivial))⟩
   have n2_ : Aside0 ((w16.setCell ⟨gb293, 0, none⟩ (.slice Ao17 y300.length co17)).heap[gb292]? = some (.cells #[.slice none 0 0, .slice none 0 0, .slice none 0 0] 73 (0, 0))) := ⟨by (with_reducible repeat (first | refine blk_drewN ?_ _ | refine blk_drew ?_ | refine blk_alloc ?_ _)); refine blk_far ?_ NB292_293.out _; (with_reducible repeat (first | refine blk_drewN ?_ _ | refine blk_drew ?_ | refine blk_alloc ?_ _)); exact BK292.out⟩
   have n3_ : Aside0 ((w16.setCell ⟨gb293, 0, none⟩ (.slice Ao17 y300.length co17)).heap[gb293]? = some (.cells #[.slice Ao17 y300.length co17, u294001, .slice none 0 0] 73 (0, 0))) := ⟨by (with_reducible repeat (first | refine blk_drewN ?_ _ | refine blk_drew ?_ | refine blk_alloc ?_ _)); refine blk_put (cs := #[u294000, u294001, .slice none 0 0]) ?_ 0 _ rfl; (with_reducible repeat (first | refine blk_drewN ?_ _ | refine blk_drew ?_ | refine blk_alloc ?_ _)); exact BK293.out⟩
   have n4_ : Aside0 (IsS152 w0 (w16.setCell ⟨gb293, 0, none⟩ (.slice Ao17 y300.length co17)) g s0_0 t298 t299) := ⟨by repeat (first | (with_reducible first | exact HI0.out | apply IsS152.alloc | apply IsS152.drewN | apply IsS152.drew | apply IsS152.set_1 | apply IsS152.set_2 | refine IsS152.far ?_ NB0_292.out _ | refine IsS152.far ?_ NB0_293.out _) | exact HI0.out)⟩
   have n5_ : Aside0 (KeepBut w (w16.setCell ⟨gb293, 0, none⟩ (.slice Ao17 y300.length co17)) g none) := ⟨by repeat (first | (with_reducible first | exact HK.out | apply KeepBut.set_ | apply keep_drewN | apply keep_drew | apply keep_alloc | refine keep_far ?_ GW292.out _ | refine keep_far ?_ GW293.out _) | exact HK.out)⟩
   have n6_ : Aside0 (Below w0.heap.size w0 (w16.setCell ⟨gb293, 0, none⟩ (.slice Ao17 y300.length co17))) := ⟨by repeat (first | (with_reducible first | exact HB.out | apply below_alloc | apply pw_below_drewN | apply below_drew1 | refine below_set ?_ (IsS152.ge HI0.out) | refine below_set ?_ GE292.out | refine below_set ?_ GE293.out) | exact HB.out)⟩
   (try clear HO_294001)
   (try clear HO302)
   (try clear BK292)
   (try clear BK293)
   (try clear HI0)
   (try clear HK)
   (try clear HB)
   generalize (w16.setCell ⟨gb293, 0, none⟩ (.slice Ao17 y300.length co17)) = w19 at n0_ n1_ n2_ n3_ n4_ n5_ n6_ ⊢
   have HO_294001 := n0_
   have HO302 := n1_
   have BK292 := n2_
   have BK293 := n3_
   have HI0 := n4_
   have HK := n5_
   have HB := n6_
   clear n0_ n1_ n2_ n3_ n4_ n5_ n6_
   have n0_ := aM (Kd.S_drew HO_294001.out)
   have n1_ := aM (Kd.R_drew HO302.out)
   have n2_ := aM (blk_drew BK292.out)
   have n3_ := aM (blk_drew BK293.out)
   have n4_ := aM (IsS152.drew HI0.out)
   have n5_ := aM (keep_drew HK.out)
   have n6_ := aM (below_drew1 HB.out)
   clear HO_294001 HO302
   clear BK292 BK293
   clear HI0 HK HB
   have HO_294001 := n0_
   have HO302 := n1_
   have BK292 := n2_
   have BK293 := n3_
   have HI0 := n4_
   have HK := n5_
   have HB := n6_
   clear n0_ n1_ n2_ n3_ n4_ n5_ n6_
   refine start_ (n := 8) (S := fun w' => w'.cell? ⟨gb293, 0, none⟩ = some (.slice Ao17 y300.length co17) ∧ w'.cell? ⟨gb293, 1, none⟩ = some (u294001) ∧ w'.cell? ⟨gb293, 2, none⟩ = some (.slice none 0 0)) (ds := [7]) #[U,U,U,U,U,U,U,U] (by kernel_rfl) rfl rfl ⟨cI BK293.out 0, cI BK293.out 1, cI BK293.out 2⟩ (fun hHeld => ?_); refine with_tabW spec_l5DrawRight.tab7 spec_l5DrawRight.bits7 (fun HT_ HW_ => ?_)
   generalize w19.drew = w20 at HO_294001 HO302 BK292 BK293 HI0 HK HB hHeld ⊢
   refine pure_ (i := 0) (N := some 23) (v := ?_) (a' := ?_) #[Y,U,U,U,U,U,U,U] rfl rfl (any_of HT_.out (by kernel_rfl)) (fun _ _ _ h => h) (Or.inl ⟨by rfl, ?_⟩) ?_ ?_
   rotate_left
   ·intro w'
    go_simp
    with_reducible rfl
   rotate_left
   ·simp only [Act.put, sA, sZ, sS, i64_w, i32_w]
    rfl
   refine pure_ (i := 2) (N := some 25) (v := ?_) (a' := ?_) #[Y,U,Y,U,U,U,U,U] rfl rfl (any_of HT_.out (by kernel_rfl)) (fun _ _ _ h => h) (Or.inl ⟨by rfl, ?_⟩) ?_ ?_
   rotate_left
   ·intro w'
    go_simp
    with_reducible rfl
   rotate_left
   ·simp only [Act.put, sA, sZ, sS, i64_w, i32_w]
    rfl
   refine take_ (i := 1) (N := some 24) (v := ?_) (a' := ?_) #[Y,Y,Y,U,U,U,U,U] rfl rfl (take_ofW HT_.out HW_.out (by kernel_rfl)) (fun _ _ _ h => h) (Or.inl ⟨by rfl, ?_⟩) hHeld ?_ ?_
   rotate_left
   ·rintro w' ⟨s0, s1, s2⟩
    go_simp
    with_reducible rfl
   rotate_left
   ·simp only [Act.put, sA, sZ, sS, i64_w, i32_w]
    rfl
   refine one_ (i := 3) (N := some 26) #[Y,Y,Y,Y,U,U,U,U] rfl rfl (one_of HT_.out (by kernel_rfl)) (by decide) (fun K hK => ?_)
   refine goes_ Try.func174 (by kernel_rfl) rfl #[.pointer (some ⟨g, 0, none⟩)] (by rfl) rfl rfl xR ?_
   with_reducible refine (spec_l4DrawRight.calls k1 g s0_0 t298 t299 t303 t304 t307 t308 w0 _ ?side1 ?side2 A12.out).mono ?_
   (case side1 => repeat (first | (with_reducible first | exact HI0.out | apply IsS152.alloc | apply IsS152.drewN | apply IsS152.drew | apply IsS152.set_1 | apply IsS152.set_2 | refine IsS152.far ?_ NB0_292.out _ | refine IsS152.far ?_ NB0_293.out _) | exact HI0.out))
   (case side2 => repeat (first | (with_reducible first | exact HB.out | apply below_alloc | apply pw_below_drewN | apply below_drew1 | refine below_set ?_ (IsS152.ge HI0.out) | refine below_set ?_ GE292.out | refine below_set ?_ GE293.out) | exact HB.out))
   rintro e w21 ⟨v305, rfl, ho0, hi, hb, hk⟩
   refine ⟨_, rfl, ?_⟩
   have n0_ := aM (Kd.S_mono (Kd.S_told (Kd.S_oldK (IsS152.apartS (show IsS152 w0 _ g s0_0 t298 t299 from by repeat (first | (with_reducible first | exact HI0.out | apply IsS152.alloc | apply IsS152.drewN | apply IsS152.drew | apply IsS152.set_1 | apply IsS152.set_2 | refine IsS152.far ?_ NB0_292.out _ | refine IsS152.far ?_ NB0_293.out _) | exact HI0.out)) (by (with_reducible repeat (first | apply Kd.S_alloc | apply Kd.S_drewN | apply Kd.S_drew)); exact HO_294001.out) (by decide)) hk) (Kd.R_base ho0)) (fun _ h_ => h_.1))
   have n1_ := aM (KeepBut.blk hk (g' := gb292) (o := .cells #[.slice none 0 0, .slice none 0 0, .slice none 0 0] 73 (0, 0)) (bk BK292.out) NB292_0.out (by simp))
   have n2_ := aM (KeepBut.blk hk (g' := gb293) (o := .cells #[.slice Ao17 y300.length co17, u294001, .slice none 0 0] 73 (0, 0)) (bk BK293.out) NB293_0.out (by simp))
   have n3_ := aM (Kd.R_mono (Kd.R_keep (IsS152.apart (show IsS152 w0 _ g s0_0 t298 t299 from by repeat (first | (with_reducible first | exact HI0.out | apply IsS152.alloc | apply IsS152.drewN | apply IsS152.drew | apply IsS152.set_1 | apply IsS152.set_2 | refine IsS152.far ?_ NB0_292.out _ | refine IsS152.far ?_ NB0_293.out _) | exact HI0.out)) (kr HO302.out) (by decide)) hk (fun _ h => h.2)) (fun _ h => h.1))
   have n4_ := aM (Kd.R_lower ho0 (keep_size (w := w) (g := g) (row := none) (by repeat (first | (with_reducible first | exact HK.out | apply KeepBut.set_ | apply keep_drewN | apply keep_drew | apply keep_alloc | refine keep_far ?_ GW292.out _ | refine keep_far ?_ GW293.out _) | exact HK.out))))
   have n5_ := aM (KeepBut.trans (by repeat (first | (with_reducible first | exact HK.out | apply KeepBut.set_ | apply keep_drewN | apply keep_drew | apply keep_alloc | refine keep_far ?_ GW292.out _ | refine keep_far ?_ GW293.out _) | exact HK.out)) hk (.inl rfl))
   have n6_ := aM (hb)
   have n7_ := aM (hi)
   clear HO_294001 BK292
   clear BK293 HO302
   clear HK HB HI0
   have HO_294001 := n0_
   have BK292 := n1_
   have BK293 := n2_
   have HO302 := n3_
   have HO306 := n4_
   have HK := n5_
   have HB := n6_
   have HI0 := n7_
   clear n0_ n1_ n2_ n3_ n4_ n5_ n6_ n7_
   (try clear hb)
   (try clear hb2)
   (try clear hk)
   (try clear hi)
   (try clear ho0)
   obtain ⟨Ao23, co23, eo23⟩ := Kd.R_slice HO306.out
   (first | subst eo23 | (injection eo23 with f1_ f2_ f3_; have f4_ := f1_.symm; have f5_ := f3_.symm; clear f1_ f2_ f3_; subst f4_; subst f5_))
   refine hK.out _ _ ⟨cI BK293.out 0, cI BK293.out 1, cI BK293.out 2⟩ (fun hHeld => ?_)
   clear hK K
   refine norm_ (a' := ?_) ?_ ?_
   rotate_left
   ·show Act.put _ (some 26) _ = _
    simp only [Act.put, sA, sZ, sS, i64_w, i32_w]
    rfl
   refine one_ (i := 4) (N := some 27) #[Y,Y,Y,Y,Y,U,U,U] rfl rfl (one_of HT_.out (by kernel_rfl)) (by decide) (fun K hK => ?_)
   refine value_ (w1 := ?_) (v := ?_) (by rfl) rfl ?_ ?_
   rotate_left 2
   ·go_simp
    constructor
    ·rfl
    ·rfl
   refine hK.out _ _ ⟨(bC (blk_alloc BK293.out _) 0).trans rfl, (bC (blk_alloc BK293.out _) 1).trans rfl, (bC (blk_alloc BK293.out _) 2).trans rfl⟩ (fun hHeld => ?_)
   clear hK K
   refine norm_ (a' := ?_) ?_ ?_
   rotate_left
   ·show Act.put _ (some 27) _ = _
    simp only [Act.put, sA, sZ, sS, i64_w, i32_w]
    rfl
   refine one_ (i := 5) (N := some 28) #[Y,Y,Y,Y,Y,Y,U,U] rfl rfl (one_of HT_.out (by kernel_rfl)) (by decide) (fun K hK => ?_)
   refine Kd.S_append_step k129 w.heap.size (by rfl) (.tmp 24) (.tmp 27) 71 129 (.agg #[(.int .i64 0), (.slice none 0 0)]) 32 rfl Try.underlying71 info129 rfl (by decide) (by omega) u294001 x294001_1 (⟨t303, t304⟩ : S129) [.int .i64 t303, .slice Ao23 t304.length co23] (fun _ => True) (fun k_ => some k_ = (.slice Ao23 t304.length co23 : Value).ownBlock) rfl rfl ?aP (fun k_ hk_ => ((Kd.R_mono (ok' := fun k_ => ((fun _ => True)) k_ ∧ some k_ ≠ (u294001 : Value).ownBlock) (Kd.R_apart' (HO306.out) (Kd.S_typed HO_294001.out) (by decide)) (fun k_ hk => ⟨trivial, hk.2⟩))).1 k_ hk_.symm) ?aF ?aO (Below.refl _ _) ?aS ?aL ?_
   (case aP => exact k129_mkM _ _ _ (⟨t303, t304⟩ : S129) (Kd.R_mono (Kd.R_tight rfl (Kd.R_mono (ok' := fun k_ => ((fun _ => True)) k_ ∧ some k_ ≠ (u294001 : Value).ownBlock) (Kd.R_apart' (HO306.out) (Kd.S_typed HO_294001.out) (by decide)) (fun k_ hk => ⟨trivial, hk.2⟩))) (fun _ h_ => h_)))
   (case aF => exact (fun _ _ => trivial))
   (case aO => exact (by (with_reducible repeat (first | apply Kd.S_alloc | apply Kd.S_drewN | apply Kd.S_drew)); exact Kd.S_mono HO_294001.out (fun k_ hk => ⟨trivial, fun e_ => hk.2 e_⟩)))
   (case aS => exact (keep_size (w := w) (g := g) (row := none) (by repeat (first | (with_reducible first | exact HK.out | apply KeepBut.set_ | apply keep_drewN | apply keep_drew | apply keep_alloc | refine keep_far ?_ GW292.out _ | refine keep_far ?_ GW293.out _) | exact HK.out))))
   (case aL => have := LMc13.out; omega)
   intro v310 w22 ho hb hg hat
   rw [← Ny309.out] at ho
   have n0_ := aM (blk_grown (g := gb292) (o := .cells #[.slice none 0 0, .slice none 0 0, .slice none 0 0] 73 (0, 0)) (bk BK292.out) hg (Kd.S_ne HO_294001.out BK292.out (by decide)))
   have n1_ := aM (blk_grown (g := gb293) (o := .cells #[.slice Ao17 y300.length co17, u294001, .slice none 0 0] 73 (0, 0)) (bk BK293.out) hg (Kd.S_ne HO_294001.out BK293.out (by decide)))
   have n2_ := aM (IsS152.grown (by repeat (first | (with_reducible first | exact HI0.out | apply IsS152.alloc | apply IsS152.drewN | apply IsS152.drew | apply IsS152.set_1 | apply IsS152.set_2 | refine IsS152.far ?_ NB0_292.out _ | refine IsS152.far ?_ NB0_293.out _) | exact HI0.out)) hg (IsS152.own_neS HI0.out HO_294001.out (by decide)))
   have n3_ := aM (Kd.R_over' (kr HO302.out) (Kd.S_typed (by (with_reducible repeat (first | apply Kd.S_alloc | apply Kd.S_drewN | apply Kd.S_drew)); exact HO_294001.out)) (by decide) hg)
   have n4_ := aM (below_weaken (by repeat (first | (with_reducible first | exact HB.out | apply below_alloc | apply pw_below_drewN | apply below_drew1 | refine below_set ?_ (IsS152.ge HI0.out) | refine below_set ?_ GE292.out | refine below_set ?_ GE293.out) | exact HB.out)) HL.out hb)
   have n5_ := aM (KeepBut.trans (by repeat (first | (with_reducible first | exact HK.out | apply KeepBut.set_ | apply keep_drewN | apply keep_drew | apply keep_alloc | refine keep_far ?_ GW292.out _ | refine keep_far ?_ GW293.out _) | exact HK.out)) (KeepBut.of_grown hg g) (Kd.S_base2 HO_294001.out))
   have n6_ := aM (ho)
   clear BK292 BK293
   clear HI0 HO302
   clear HB HK
   clear HO_294001 HO306
   have BK292 := n0_
   have BK293 := n1_
   have HI0 := n2_
   have HO302 := n3_
   have HB := n4_
   have HK := n5_
   have HO311 := n6_
   clear n0_ n1_ n2_ n3_ n4_ n5_ n6_
   clear ho hb hg hat
   obtain ⟨Ao24, co24, eo24⟩ := Kd.S_slice HO311.out
   (first | subst eo24 | (injection eo24 with f1_ f2_ f3_; have f4_ := f1_.symm; have f5_ := f3_.symm; clear f1_ f2_ f3_; subst f4_; subst f5_))
   refine hK.out _ _ ⟨cI BK293.out 0, cI BK293.out 1, cI BK293.out 2⟩ (fun hHeld => ?_)
   clear hK K
   refine norm_ (a' := ?_) ?_ ?_
   rotate_left
   ·show Act.put _ (some 28) _ = _
    simp only [Act.put, sA, sZ, sS, i64_w, i32_w]
    rfl
   refine pure_ (i := 6) (N := some 29) (v := ?_) (a' := ?_) #[Y,Y,Y,Y,Y,Y,Y,U] rfl rfl (any_of HT_.out (by kernel_rfl)) (fun _ _ _ h => h) (Or.inl ⟨by rfl, ?_⟩) ?_ ?_
   rotate_left
   ·intro w'
    go_simp
    with_reducible rfl
   rotate_left
   ·simp only [Act.put, sA, sZ, sS, i64_w, i32_w]
    rfl
   refine last_ (i := 7) (N := none) #[Y,Y,Y,Y,Y,Y,Y,Y] rfl rfl (one_of HT_.out (by kernel_rfl)) (by decide) (fun K hK => ?_)
   have hs25 := cI BK293.out 1
   have hfs25 := bF BK293.out 1
   have hns25_0 := NB292_293.out
   have hms25_0 := NB293_292.out
   refine skip_ (w1 := ?_) (by rfl) rfl ?_ ?_
   rotate_left
   ·go_simp
    rfl
   refine hK.out _ _ ?_
   clear hK K
   refine done_ (done_of HT_.out (by kernel_rfl)) ?_
   try go_wp2
   go_roundg k1
   case measure => have := HK1.out; omega
   case rel => exact ⟨(wrap64 (x5_1 + 1)), (t307), (t308), (y300), (y309), (.slice Ao17 y300.length co17), (.slice Ao24 y309.length co24), xE, H', ⟨by have := HK1.out; omega⟩, ⟨kr (Kd.R_mono (kF (p := ⟨gb293, 1, none⟩) (Kd.R_types HO302.out BK293.out (by decide)) (fun _ hk => hk.2) (.slice Ao24 y309.length co24)) (fun _ hk => trivial))⟩, ⟨by (with_reducible repeat (first | apply Kd.S_alloc | apply Kd.S_drewN | apply Kd.S_drew)); exact Kd.S_mono (Kd.S_far (p := ⟨gb293, 1, none⟩) (Kd.S_types HO311.out BK293.out (by decide)) (fun _ hk => hk.2) (.slice Ao24 y309.length co24)) (fun _ hk => trivial)⟩, ⟨by (with_reducible repeat (first | refine blk_drewN ?_ _ | refine blk_drew ?_ | refine blk_alloc ?_ _)); refine blk_far ?_ NB292_293.out _; (with_reducible repeat (first | refine blk_drewN ?_ _ | refine blk_drew ?_ | refine blk_alloc ?_ _)); exact BK292.out⟩, ⟨by (with_reducible repeat (first | refine blk_drewN ?_ _ | refine blk_drew ?_ | refine blk_alloc ?_ _)); refine blk_put (cs := #[.slice Ao17 y300.length co17, u294001, .slice none 0 0]) ?_ 1 _ rfl; (with_reducible repeat (first | refine blk_drewN ?_ _ | refine blk_drew ?_ | refine blk_alloc ?_ _)); exact BK293.out⟩, ⟨by repeat (first | (with_reducible first | exact HI0.out | apply IsS152.alloc | apply IsS152.drewN | apply IsS152.drew | apply IsS152.set_1 | apply IsS152.set_2 | refine IsS152.far ?_ NB0_292.out _ | refine IsS152.far ?_ NB0_293.out _) | exact HI0.out)⟩, ⟨by repeat (first | (with_reducible first | exact HK.out | apply KeepBut.set_ | apply keep_drewN | apply keep_drew | apply keep_alloc | refine keep_far ?_ GW292.out _ | refine keep_far ?_ GW293.out _) | exact HK.out)⟩, ⟨by repeat (first | (with_reducible first | exact HB.out | apply below_alloc | apply pw_below_drewN | apply below_drew1 | refine below_set ?_ (IsS152.ge HI0.out) | refine below_set ?_ GE292.out | refine below_set ?_ GE293.out) | exact HB.out)⟩⟩

def spec_l4Draw.f (k : Nat) (s0_0 : List Int) (s0_1 : Int) (s0_2 : Int) : Option (Int × List Int × Int × Int) := (spec_l4DrawRight.f k s0_0 s0_1 s0_2).bind fun bt318 => ((spec_l1Below.f s0_0 bt318.2.2.1 bt318.2.2.2 8).bind fun bt325 => (if bt325.1 = 0 then ((spec_l1Below.f s0_0 bt325.2.1 bt325.2.2 6).bind fun bt328 => (some (bt328.1, bt318.2.1, bt328.2.1, bt328.2.2))) else (if bt325.1 = 1 then ((spec_l1Below.f s0_0 bt325.2.1 bt325.2.2 6).bind fun bt331 => (if bt318.2.1.length < 17592186044416 then (some (bt318.1, (bt318.2.1 ++ [bt331.1]), bt331.2.1, bt331.2.2)) else (none))) else (some (bt318.1, bt318.2.1, bt325.2.1, bt325.2.2)))))
theorem spec_l4Draw.mono : ∀ a0 a1 a2 k, LeO (spec_l4Draw.f k a0 a1 a2) (spec_l4Draw.f (k + 1) a0 a1 a2) := by
 intro a0 a1 a2 k
 unfold spec_l4Draw.f
 repeat' first
   | (with_reducible exact spec_l4DrawRight.mono _ _ _ _)
   | (with_reducible exact LeO.refl _)
   | (with_reducible exact LeO.none _)
   | (with_reducible refine LeO.ite ?_ ?_)
   | (with_reducible refine LeO.bind ?_ (fun _ => ?_))
   | exact spec_l4DrawRight.mono _ _ _ _
   | exact LeO.none _
   | refine LeO.ite ?_ ?_
   | refine LeO.bind ?_ (fun _ => ?_)
def spec_l4Draw.T6 : Bool × List (List Nat × List Nat) := (true, [([], []), ([0], [0]), ([], []), ([2], [2]), ([3], [3]), ([1, 4, 3], [1, 4]), ([0, 1, 2, 3, 4, 5], []), ([6, 5, 5, 0, 1, 2, 3, 4, 5], [5, 6])])
def spec_l4Draw.B6 : List Nat := [0, 1, 0, 4, 12, 31, 63, 127]
theorem spec_l4Draw.tab6 : rtab .any (opsOf Try.f155 6) = spec_l4Draw.T6 := by kernel_rfl
theorem spec_l4Draw.bits6 : waitsOk spec_l4Draw.T6.2 spec_l4Draw.B6 = true := by kernel_rfl
set_option maxHeartbeats 60000000 in
set_option maxRecDepth 100000 in
theorem spec_l4Draw.calls (k : Nat) (g : Nat) (s0_0 : List Int) (s0_1 : Int) (s0_2 : Int) (r1 : Int) (r2 : List Int) (r3 : Int) (r4 : Int) (w0 w : World) (hI : IsS152 w0 w g s0_0 s0_1 s0_2) (hB : Below w0.heap.size w0 w) (h : spec_l4Draw.f k s0_0 s0_1 s0_2 = some (r1, r2, r3, r4)) :
  Calls Try.prog 155 #[.pointer (some ⟨g, 0, none⟩)] w fun e w' => ∃ v1_ : Value, e = .returned (.agg #[.int .i64 r1, v1_]) ∧ Kd.R (Kd.int .i64) 3 w' w.heap.size (fun _ => True) v1_ r2 ∧ IsS152 w0 w' g s0_0 r3 r4 ∧ Below w0.heap.size w0 w' ∧ KeepBut w w' g none := by
 have hu129 := Try.underlying129
 have HI0 := aM hI
 have HK := aM (KeepBut.refl w g none)
 have HL := aM hB.size
 clear hI
 have HW0 := aM hB.size
 have HB := aM hB
 clear hB
 have H : ((spec_l4DrawRight.f k s0_0 s0_1 s0_2).bind fun bt318 => ((spec_l1Below.f s0_0 bt318.2.2.1 bt318.2.2.2 8).bind fun bt325 => (if bt325.1 = 0 then ((spec_l1Below.f s0_0 bt325.2.1 bt325.2.2 6).bind fun bt328 => (some (bt328.1, bt318.2.1, bt328.2.1, bt328.2.2))) else (if bt325.1 = 1 then ((spec_l1Below.f s0_0 bt325.2.1 bt325.2.2 6).bind fun bt331 => (if bt318.2.1.length < 17592186044416 then (some (bt318.1, (bt318.2.1 ++ [bt331.1]), bt331.2.1, bt331.2.2)) else (none))) else (some (bt318.1, bt318.2.1, bt325.2.1, bt325.2.2)))))) = some (r1, r2, r3, r4) := h
 clear h
 replace H := Option.bind_eq_some_iff.mp H
 obtain ⟨⟨t318, t319, t322, t323⟩, A20, H⟩ := H
 replace H : ((spec_l1Below.f s0_0 t322 t323 8).bind fun bt325 => (if bt325.1 = 0 then ((spec_l1Below.f s0_0 bt325.2.1 bt325.2.2 6).bind fun bt328 => (some (bt328.1, t319, bt328.2.1, bt328.2.2))) else (if bt325.1 = 1 then ((spec_l1Below.f s0_0 bt325.2.1 bt325.2.2 6).bind fun bt331 => (if t319.length < 17592186044416 then (some (t318, (t319 ++ [bt331.1]), bt331.2.1, bt331.2.2)) else (none))) else (some (t318, t319, bt325.2.1, bt325.2.2))))) = some (r1, r2, r3, r4) := H
 have A2 := aM A20
 clear A20
 replace H := Option.bind_eq_some_iff.mp H
 obtain ⟨⟨t325, t326, t327⟩, A30, H⟩ := H
 replace H : (if t325 = 0 then ((spec_l1Below.f s0_0 t326 t327 6).bind fun bt328 => (some (bt328.1, t319, bt328.2.1, bt328.2.2))) else (if t325 = 1 then ((spec_l1Below.f s0_0 t326 t327 6).bind fun bt331 => (if t319.length < 17592186044416 then (some (t318, (t319 ++ [bt331.1]), bt331.2.1, bt331.2.2)) else (none))) else (some (t318, t319, t326, t327)))) = some (r1, r2, r3, r4) := H
 have A3 := aM A30
 clear A30
 by_cases c4 : t325 = 0
 case pos =>
  rw [if_pos c4] at H
  have c4b0 : (t325 == 0) = true := beq_iff_eq.mpr c4
  have c4b1 : (t325 != 0) = false := bne_eq_false_iff_eq.mpr c4
  clear c4
  replace H := Option.bind_eq_some_iff.mp H
  obtain ⟨⟨t328, t329, t330⟩, A50, H⟩ := H
  replace H : (some (t328, t319, t329, t330)) = some (r1, r2, r3, r4) := H
  have A5 := aM A50
  clear A50
  simp only [Option.some.injEq, Prod.mk.injEq] at H
  obtain ⟨rfl, rfl, rfl, rfl⟩ := H
  go_enter Try.func155, Try.ntmps155
  go_wp2_with (first | ((with_reducible refine gate_dst (N := 2) rfl ?_); refine box_event ?hg (N := 2) ?hd (cs := #[.int .i64 0, .slice none 0 0]) (t := 129) ?hr ?_; (case hd => rfl); (case hg => rfl); (case hr => first | (go_simp; done) | (go_simp; rfl) | (obtain ⟨A_, c_, e_⟩ := Kd.R_slice HO321.out; subst e_; (first | (go_simp; done) | (go_simp; rfl))) | (obtain ⟨A_, c_, e_⟩ := Kd.S_slice HO321.out; subst e_; (first | (go_simp; done) | (go_simp; rfl)))); intro gb317 hg w6 hbox hb; have n0_ := aM (IsS152.below (by repeat (first | (with_reducible first | exact HI0.out | apply IsS152.alloc | apply IsS152.drewN | apply IsS152.drew | apply IsS152.set_1 | apply IsS152.set_2) | exact HI0.out)) hb); have n1_ := aM (KeepBut.trans (by repeat (first | (with_reducible first | exact HK.out | apply KeepBut.set_ | apply keep_drewN | apply keep_drew | apply keep_alloc) | exact HK.out)) (KeepBut.of_below hb g none) (.inl rfl)); have n2_ := aM (bS (by repeat (first | (with_reducible first | exact HB.out | apply below_alloc | apply pw_below_drewN | apply below_drew1 | refine below_set ?_ (IsS152.ge HI0.out)) | exact HB.out)) hb); have n3_ := aM (hbox); have n4_ := aM ((by rw [hg]; exact (keep_size (w := w) (g := g) (row := none) (by repeat (first | (with_reducible first | exact HK.out | apply KeepBut.set_ | apply keep_drewN | apply keep_drew | apply keep_alloc) | exact HK.out))) : w.heap.size ≤ gb317)); have n5_ := aM ((Nat.le_trans HW0.out (by rw [hg]; exact (keep_size (w := w) (g := g) (row := none) (by repeat (first | (with_reducible first | exact HK.out | apply KeepBut.set_ | apply keep_drewN | apply keep_drew | apply keep_alloc) | exact HK.out))) : w.heap.size ≤ gb317) : w0.heap.size ≤ gb317)); have n6_ := aM ((by rw [hg]; exact Nat.ne_of_lt (IsS152.lt (show IsS152 w0 _ g s0_0 s0_1 s0_2 from by repeat (first | (with_reducible first | exact HI0.out | apply IsS152.alloc | apply IsS152.drewN | apply IsS152.drew | apply IsS152.set_1 | apply IsS152.set_2) | exact HI0.out))) : g ≠ gb317)); have n7_ := aM ((by rw [hg]; exact Nat.ne_of_gt (IsS152.lt (show IsS152 w0 _ g s0_0 s0_1 s0_2 from by repeat (first | (with_reducible first | exact HI0.out | apply IsS152.alloc | apply IsS152.drewN | apply IsS152.drew | apply IsS152.set_1 | apply IsS152.set_2) | exact HI0.out))) : gb317 ≠ g)); clear HI0 HK HB; have HI0 := n0_; have HK := n1_; have HB := n2_; have BK317 := n3_; have GW317 := n4_; have GE317 := n5_; have NB0_317 := n6_; have NB317_0 := n7_; clear n0_ n1_ n2_ n3_ n4_ n5_ n6_ n7_; clear hb hbox hg) | ((with_reducible refine gate_callee (f := 174) rfl ?_); refine goesL_ (some 5) rfl rfl Try.func174 (by kernel_rfl) rfl #[.pointer (some ⟨g, 0, none⟩)] rfl xR ?_; (with_reducible refine (spec_l4DrawRight.calls k g s0_0 s0_1 s0_2 t318 t319 t322 t323 w0 _ ?side1 ?side2 A2.out).mono ?_); (case side1 => repeat (first | (with_reducible first | exact HI0.out | apply IsS152.alloc | apply IsS152.drewN | apply IsS152.drew | apply IsS152.set_1 | apply IsS152.set_2 | refine IsS152.far ?_ NB0_317.out _) | exact HI0.out)); (case side2 => repeat (first | (with_reducible first | exact HB.out | apply below_alloc | apply pw_below_drewN | apply below_drew1 | refine below_set ?_ (IsS152.ge HI0.out) | refine below_set ?_ GE317.out) | exact HB.out)); rintro e w7 ⟨v320, rfl, ho0, hi, hb, hk⟩; refine ⟨_, rfl, ?_⟩; have n0_ := aM (KeepBut.blk hk (g' := gb317) (o := .cells #[.int .i64 0, .slice none 0 0] 129 (0, 0)) (bk BK317.out) NB317_0.out (by simp)); have n1_ := aM (Kd.R_lower ho0 (keep_size (w := w) (g := g) (row := none) (by repeat (first | (with_reducible first | exact HK.out | apply KeepBut.set_ | apply keep_drewN | apply keep_drew | apply keep_alloc | refine keep_far ?_ GW317.out _) | exact HK.out)))); have n2_ := aM (KeepBut.trans (by repeat (first | (with_reducible first | exact HK.out | apply KeepBut.set_ | apply keep_drewN | apply keep_drew | apply keep_alloc | refine keep_far ?_ GW317.out _) | exact HK.out)) hk (.inl rfl)); have n3_ := aM (hb); have n4_ := aM (hi); clear BK317 HK; clear HB HI0; have BK317 := n0_; have HO321 := n1_; have HK := n2_; have HB := n3_; have HI0 := n4_; clear n0_ n1_ n2_ n3_ n4_; (try clear hb); (try clear hk); (try clear hi); (try clear ho0)) | ((with_reducible refine gate_dst (N := 3) rfl ?_); refine box_event ?hg (N := 3) ?hd (cs := #[.int .i64 0, .slice none 0 0]) (t := 129) ?hr ?_; (case hd => rfl); (case hg => rfl); (case hr => first | (go_simp; done) | (go_simp; rfl) | (obtain ⟨A_, c_, e_⟩ := Kd.R_slice HO321.out; subst e_; (first | (go_simp; done) | (go_simp; rfl))) | (obtain ⟨A_, c_, e_⟩ := Kd.S_slice HO321.out; subst e_; (first | (go_simp; done) | (go_simp; rfl)))); intro gb324 hg w8 hbox hb; have n0_ := aM (kB (kr HO321.out) hb); have n1_ := aM (IsS152.below (by repeat (first | (with_reducible first | exact HI0.out | apply IsS152.alloc | apply IsS152.drewN | apply IsS152.drew | apply IsS152.set_1 | apply IsS152.set_2 | refine IsS152.far ?_ NB0_317.out _) | exact HI0.out)) hb); have n2_ := aM (bB (g := gb317) (o := .cells #[.int .i64 0, .slice none 0 0] 129 (0, 0)) (bk BK317.out) hb); have n3_ := aM (KeepBut.trans (by repeat (first | (with_reducible first | exact HK.out | apply KeepBut.set_ | apply keep_drewN | apply keep_drew | apply keep_alloc | refine keep_far ?_ GW317.out _) | exact HK.out)) (KeepBut.of_below hb g none) (.inl rfl)); have n4_ := aM (bS (by repeat (first | (with_reducible first | exact HB.out | apply below_alloc | apply pw_below_drewN | apply below_drew1 | refine below_set ?_ (IsS152.ge HI0.out) | refine below_set ?_ GE317.out) | exact HB.out)) hb); have n5_ := aM (hbox); have n6_ := aM ((by rw [hg]; exact (keep_size (w := w) (g := g) (row := none) (by repeat (first | (with_reducible first | exact HK.out | apply KeepBut.set_ | apply keep_drewN | apply keep_drew | apply keep_alloc | refine keep_far ?_ GW317.out _) | exact HK.out))) : w.heap.size ≤ gb324)); have n7_ := aM ((Nat.le_trans HW0.out (by rw [hg]; exact (keep_size (w := w) (g := g) (row := none) (by repeat (first | (with_reducible first | exact HK.out | apply KeepBut.set_ | apply keep_drewN | apply keep_drew | apply keep_alloc | refine keep_far ?_ GW317.out _) | exact HK.out))) : w.heap.size ≤ gb324) : w0.heap.size ≤ gb324)); have n8_ := aM ((by rw [hg]; exact Nat.ne_of_lt (blk_lt (g := gb317) (o := .cells #[.int .i64 0, .slice none 0 0] 129 (0, 0)) (bk BK317.out)) : gb317 ≠ gb324)); have n9_ := aM ((by rw [hg]; exact Nat.ne_of_gt (blk_lt (g := gb317) (o := .cells #[.int .i64 0, .slice none 0 0] 129 (0, 0)) (bk BK317.out)) : gb324 ≠ gb317)); have n10_ := aM ((by rw [hg]; exact Nat.ne_of_lt (IsS152.lt (show IsS152 w0 _ g s0_0 t322 t323 from by repeat (first | (with_reducible first | exact HI0.out | apply IsS152.alloc | apply IsS152.drewN | apply IsS152.drew | apply IsS152.set_1 | apply IsS152.set_2 | refine IsS152.far ?_ NB0_317.out _) | exact HI0.out))) : g ≠ gb324)); have n11_ := aM ((by rw [hg]; exact Nat.ne_of_gt (IsS152.lt (show IsS152 w0 _ g s0_0 t322 t323 from by repeat (first | (with_reducible first | exact HI0.out | apply IsS152.alloc | apply IsS152.drewN | apply IsS152.drew | apply IsS152.set_1 | apply IsS152.set_2 | refine IsS152.far ?_ NB0_317.out _) | exact HI0.out))) : gb324 ≠ g)); clear HO321 HI0; clear BK317 HK HB; have HO321 := n0_; have HI0 := n1_; have BK317 := n2_; have HK := n3_; have HB := n4_; have BK324 := n5_; have GW324 := n6_; have GE324 := n7_; have NB317_324 := n8_; have NB324_317 := n9_; have NB0_324 := n10_; have NB324_0 := n11_; clear n0_ n1_ n2_ n3_ n4_ n5_ n6_ n7_ n8_ n9_ n10_ n11_; clear hb hbox hg; have hnb9 := NB324_317.out; have hnc9 := NB317_324.out; have hnb10 := NB324_0.out; have hnc10 := NB0_324.out; have hcz11_0 := cI BK324.out 0; have hcz11_1 := cI BK324.out 1; have hfz11_0 := bF BK324.out 0; have hfz11_1 := bF BK324.out 1; obtain ⟨Ao12, co12, eo12⟩ := Kd.R_slice HO321.out; subst eo12) | ((with_reducible refine gate_callee (f := 74) rfl ?_); refine goesL_ (some 7) rfl rfl Try.func74 (by kernel_rfl) rfl #[.pointer (some ⟨g, 0, none⟩), .int .i64 8] rfl xR ?_; (with_reducible refine (spec_l1Below.calls g s0_0 t322 t323 8 t325 t326 t327 w0 _ ?side1 ?side2 A3.out).mono ?_); (case side1 => repeat (first | (with_reducible first | exact HI0.out | apply IsS152.alloc | apply IsS152.drewN | apply IsS152.drew | apply IsS152.set_1 | apply IsS152.set_2 | refine IsS152.far ?_ NB0_317.out _ | refine IsS152.far ?_ NB0_324.out _) | exact HI0.out)); (case side2 => repeat (first | (with_reducible first | exact HB.out | apply below_alloc | apply pw_below_drewN | apply below_drew1 | refine below_set ?_ (IsS152.ge HI0.out) | refine below_set ?_ GE317.out | refine below_set ?_ GE324.out) | exact HB.out)); rintro e w13 ⟨rfl, hi, hb, hk⟩; refine ⟨_, rfl, ?_⟩; have n0_ := aM (KeepBut.blk hk (g' := gb317) (o := .cells #[.int .i64 0, .slice none 0 0] 129 (0, 0)) (by (with_reducible repeat (first | refine blk_drewN ?_ _ | refine blk_drew ?_ | refine blk_alloc ?_ _)); refine blk_far ?_ NB317_324.out _; (with_reducible repeat (first | refine blk_drewN ?_ _ | refine blk_drew ?_ | refine blk_alloc ?_ _)); refine blk_far ?_ NB317_324.out _; (with_reducible repeat (first | refine blk_drewN ?_ _ | refine blk_drew ?_ | refine blk_alloc ?_ _)); exact BK317.out) NB317_0.out (by simp)); have n1_ := aM (Kd.R_mono (Kd.R_keep (IsS152.apart (show IsS152 w0 _ g s0_0 t322 t323 from by repeat (first | (with_reducible first | exact HI0.out | apply IsS152.alloc | apply IsS152.drewN | apply IsS152.drew | apply IsS152.set_1 | apply IsS152.set_2 | refine IsS152.far ?_ NB0_317.out _ | refine IsS152.far ?_ NB0_324.out _) | exact HI0.out)) (kr (Kd.R_mono (kF (p := ⟨gb324, 1, none⟩) (kF (p := ⟨gb324, 0, none⟩) (Kd.R_types HO321.out BK324.out (by decide)) (fun _ hk => hk.2) (.int .i64 t318)) (fun _ hk => hk.2) (.slice Ao12 t319.length co12)) (fun _ h_ => h_.1))) (by decide)) hk (fun _ h => h.2)) (fun _ h => h.1)); have n2_ := aM (KeepBut.blk hk (g' := gb324) (o := .cells #[.int .i64 t318, .slice Ao12 t319.length co12] 129 (0, 0)) (by (with_reducible repeat (first | refine blk_drewN ?_ _ | refine blk_drew ?_ | refine blk_alloc ?_ _)); refine blk_put (cs := #[.int .i64 t318, .slice none 0 0]) ?_ 1 _ rfl; (with_reducible repeat (first | refine blk_drewN ?_ _ | refine blk_drew ?_ | refine blk_alloc ?_ _)); refine blk_put (cs := #[.int .i64 0, .slice none 0 0]) ?_ 0 _ rfl; (with_reducible repeat (first | refine blk_drewN ?_ _ | refine blk_drew ?_ | refine blk_alloc ?_ _)); exact BK324.out) NB324_0.out (by simp)); have n3_ := aM (KeepBut.trans (by repeat (first | (with_reducible first | exact HK.out | apply KeepBut.set_ | apply keep_drewN | apply keep_drew | apply keep_alloc | refine keep_far ?_ GW317.out _ | refine keep_far ?_ GW324.out _) | exact HK.out)) hk (.inl rfl)); have n4_ := aM (hb); have n5_ := aM (hi); clear BK317 HO321; clear BK324 HK; clear HB HI0; have BK317 := n0_; have HO321 := n1_; have BK324 := n2_; have HK := n3_; have HB := n4_; have HI0 := n5_; clear n0_ n1_ n2_ n3_ n4_ n5_; (try clear hb); (try clear hk); (try clear hi)) | ((with_reducible refine gate_callee (f := 74) rfl ?_); refine goesL_ (some 11) rfl rfl Try.func74 (by kernel_rfl) rfl #[.pointer (some ⟨g, 0, none⟩), .int .i64 6] rfl xR ?_; (with_reducible refine (spec_l1Below.calls g s0_0 t326 t327 6 t328 t329 t330 w0 _ ?side1 ?side2 A5.out).mono ?_); (case side1 => repeat (first | (with_reducible first | exact HI0.out | apply IsS152.alloc | apply IsS152.drewN | apply IsS152.drew | apply IsS152.set_1 | apply IsS152.set_2 | refine IsS152.far ?_ NB0_317.out _ | refine IsS152.far ?_ NB0_324.out _) | exact HI0.out)); (case side2 => repeat (first | (with_reducible first | exact HB.out | apply below_alloc | apply pw_below_drewN | apply below_drew1 | refine below_set ?_ (IsS152.ge HI0.out) | refine below_set ?_ GE317.out | refine below_set ?_ GE324.out) | exact HB.out)); rintro e w14 ⟨rfl, hi, hb, hk⟩; refine ⟨_, rfl, ?_⟩; have n0_ := aM (KeepBut.blk hk (g' := gb317) (o := .cells #[.int .i64 0, .slice none 0 0] 129 (0, 0)) (bk BK317.out) NB317_0.out (by simp)); have n1_ := aM (Kd.R_mono (Kd.R_keep (IsS152.apart (show IsS152 w0 _ g s0_0 t326 t327 from by repeat (first | (with_reducible first | exact HI0.out | apply IsS152.alloc | apply IsS152.drewN | apply IsS152.drew | apply IsS152.set_1 | apply IsS152.set_2 | refine IsS152.far ?_ NB0_317.out _ | refine IsS152.far ?_ NB0_324.out _) | exact HI0.out)) (kr HO321.out) (by decide)) hk (fun _ h => h.2)) (fun _ h => h.1)); have n2_ := aM (KeepBut.blk hk (g' := gb324) (o := .cells #[.int .i64 t318, .slice Ao12 t319.length co12] 129 (0, 0)) (bk BK324.out) NB324_0.out (by simp)); have n3_ := aM (KeepBut.trans (by repeat (first | (with_reducible first | exact HK.out | apply KeepBut.set_ | apply keep_drewN | apply keep_drew | apply keep_alloc | refine keep_far ?_ GW317.out _ | refine keep_far ?_ GW324.out _) | exact HK.out)) hk (.inl rfl)); have n4_ := aM (hb); have n5_ := aM (hi); clear BK317 HO321; clear BK324 HK; clear HB HI0; have BK317 := n0_; have HO321 := n1_; have BK324 := n2_; have HK := n3_; have HB := n4_; have HI0 := n5_; clear n0_ n1_ n2_ n3_ n4_ n5_; (try clear hb); (try clear hk); (try clear hi); have hcz15_0 := cI BK324.out 0; have hcz15_1 := cI BK324.out 1; have hfz15_0 := bF BK324.out 0; have hfz15_1 := bF BK324.out 1; have hnb16 := NB317_0.out; have hnc16 := NB0_317.out; have hcz17_0 := cI BK317.out 0; have hcz17_1 := cI BK317.out 1; have hfz17_0 := bF BK317.out 0; have hfz17_1 := bF BK317.out 1))
  refine bodyPost_ret (results_cell_row rfl _ _ gb317 129 #[.int .i64 t328, .slice Ao12 t319.length co12] (0, 0) _ rfl (by (with_reducible repeat (first | refine blk_drewN ?_ _ | refine blk_drew ?_ | refine blk_alloc ?_ _)); refine blk_put (cs := #[.int .i64 t328, .slice none 0 0]) ?_ 1 _ rfl; (with_reducible repeat (first | refine blk_drewN ?_ _ | refine blk_drew ?_ | refine blk_alloc ?_ _)); refine blk_put (cs := #[.int .i64 0, .slice none 0 0]) ?_ 0 _ rfl; (with_reducible repeat (first | refine blk_drewN ?_ _ | refine blk_drew ?_ | refine blk_alloc ?_ _)); refine blk_far ?_ NB317_324.out _; (with_reducible repeat (first | refine blk_drewN ?_ _ | refine blk_drew ?_ | refine blk_alloc ?_ _)); exact BK317.out) Try.underlying129 rfl (by kernel_rfl)) rfl ?_
  exact ⟨_, xW, by (with_reducible repeat (first | apply Kd.R_alloc | apply Kd.R_drewN | apply Kd.R_drew)); exact Kd.R_mono (kF (p := ⟨gb317, 1, none⟩) (kF (p := ⟨gb317, 0, none⟩) (kF (p := ⟨gb324, 0, none⟩) (Kd.R_types (Kd.R_types HO321.out BK324.out (by decide)) BK317.out (by decide)) (fun _ hk => hk.1.2) (.int .i64 t328)) (fun _ hk => hk.2) (.int .i64 t328)) (fun _ hk => hk.2) (.slice Ao12 t319.length co12)) (fun _ hk => trivial), by repeat (first | (with_reducible first | exact HI0.out | apply IsS152.alloc | apply IsS152.drewN | apply IsS152.drew | apply IsS152.set_1 | apply IsS152.set_2 | refine IsS152.far ?_ NB0_317.out _ | refine IsS152.far ?_ NB0_324.out _) | exact HI0.out), by repeat (first | (with_reducible first | exact HB.out | apply below_alloc | apply pw_below_drewN | apply below_drew1 | refine below_set ?_ (IsS152.ge HI0.out) | refine below_set ?_ GE317.out | refine below_set ?_ GE324.out) | exact HB.out), by repeat (first | (with_reducible first | exact HK.out | apply KeepBut.set_ | apply keep_drewN | apply keep_drew | apply keep_alloc | refine keep_far ?_ GW317.out _ | refine keep_far ?_ GW324.out _) | exact HK.out)⟩
 rw [if_neg c4] at H
 have c4b0 : (t325 == 0) = false := beq_eq_false_iff_ne.mpr c4
 have c4b1 : (t325 != 0) = true := bne_iff_ne.mpr c4
 by_cases c18 : t325 = 1
 case neg =>
  rw [if_neg c18] at H
  have c18b0 : (t325 == 1) = false := beq_eq_false_iff_ne.mpr c18
  have c18b1 : (t325 != 1) = true := bne_iff_ne.mpr c18
  simp only [Option.some.injEq, Prod.mk.injEq] at H
  obtain ⟨rfl, rfl, rfl, rfl⟩ := H
  go_enter Try.func155, Try.ntmps155
  go_wp2_with (first | ((with_reducible refine gate_dst (N := 2) rfl ?_); refine box_event ?hg (N := 2) ?hd (cs := #[.int .i64 0, .slice none 0 0]) (t := 129) ?hr ?_; (case hd => rfl); (case hg => rfl); (case hr => first | (go_simp; done) | (go_simp; rfl) | (obtain ⟨A_, c_, e_⟩ := Kd.R_slice HO321.out; subst e_; (first | (go_simp; done) | (go_simp; rfl))) | (obtain ⟨A_, c_, e_⟩ := Kd.S_slice HO321.out; subst e_; (first | (go_simp; done) | (go_simp; rfl)))); intro gb317 hg w37 hbox hb; have n0_ := aM (IsS152.below (by repeat (first | (with_reducible first | exact HI0.out | apply IsS152.alloc | apply IsS152.drewN | apply IsS152.drew | apply IsS152.set_1 | apply IsS152.set_2) | exact HI0.out)) hb); have n1_ := aM (KeepBut.trans (by repeat (first | (with_reducible first | exact HK.out | apply KeepBut.set_ | apply keep_drewN | apply keep_drew | apply keep_alloc) | exact HK.out)) (KeepBut.of_below hb g none) (.inl rfl)); have n2_ := aM (bS (by repeat (first | (with_reducible first | exact HB.out | apply below_alloc | apply pw_below_drewN | apply below_drew1 | refine below_set ?_ (IsS152.ge HI0.out)) | exact HB.out)) hb); have n3_ := aM (hbox); have n4_ := aM ((by rw [hg]; exact (keep_size (w := w) (g := g) (row := none) (by repeat (first | (with_reducible first | exact HK.out | apply KeepBut.set_ | apply keep_drewN | apply keep_drew | apply keep_alloc) | exact HK.out))) : w.heap.size ≤ gb317)); have n5_ := aM ((Nat.le_trans HW0.out (by rw [hg]; exact (keep_size (w := w) (g := g) (row := none) (by repeat (first | (with_reducible first | exact HK.out | apply KeepBut.set_ | apply keep_drewN | apply keep_drew | apply keep_alloc) | exact HK.out))) : w.heap.size ≤ gb317) : w0.heap.size ≤ gb317)); have n6_ := aM ((by rw [hg]; exact Nat.ne_of_lt (IsS152.lt (show IsS152 w0 _ g s0_0 s0_1 s0_2 from by repeat (first | (with_reducible first | exact HI0.out | apply IsS152.alloc | apply IsS152.drewN | apply IsS152.drew | apply IsS152.set_1 | apply IsS152.set_2) | exact HI0.out))) : g ≠ gb317)); have n7_ := aM ((by rw [hg]; exact Nat.ne_of_gt (IsS152.lt (show IsS152 w0 _ g s0_0 s0_1 s0_2 from by repeat (first | (with_reducible first | exact HI0.out | apply IsS152.alloc | apply IsS152.drewN | apply IsS152.drew | apply IsS152.set_1 | apply IsS152.set_2) | exact HI0.out))) : gb317 ≠ g)); clear HI0 HK HB; have HI0 := n0_; have HK := n1_; have HB := n2_; have BK317 := n3_; have GW317 := n4_; have GE317 := n5_; have NB0_317 := n6_; have NB317_0 := n7_; clear n0_ n1_ n2_ n3_ n4_ n5_ n6_ n7_; clear hb hbox hg) | ((with_reducible refine gate_callee (f := 174) rfl ?_); refine goesL_ (some 5) rfl rfl Try.func174 (by kernel_rfl) rfl #[.pointer (some ⟨g, 0, none⟩)] rfl xR ?_; (with_reducible refine (spec_l4DrawRight.calls k g s0_0 s0_1 s0_2 t318 t319 t322 t323 w0 _ ?side1 ?side2 A2.out).mono ?_); (case side1 => repeat (first | (with_reducible first | exact HI0.out | apply IsS152.alloc | apply IsS152.drewN | apply IsS152.drew | apply IsS152.set_1 | apply IsS152.set_2 | refine IsS152.far ?_ NB0_317.out _) | exact HI0.out)); (case side2 => repeat (first | (with_reducible first | exact HB.out | apply below_alloc | apply pw_below_drewN | apply below_drew1 | refine below_set ?_ (IsS152.ge HI0.out) | refine below_set ?_ GE317.out) | exact HB.out)); rintro e w38 ⟨v320, rfl, ho0, hi, hb, hk⟩; refine ⟨_, rfl, ?_⟩; have n0_ := aM (KeepBut.blk hk (g' := gb317) (o := .cells #[.int .i64 0, .slice none 0 0] 129 (0, 0)) (bk BK317.out) NB317_0.out (by simp)); have n1_ := aM (Kd.R_lower ho0 (keep_size (w := w) (g := g) (row := none) (by repeat (first | (with_reducible first | exact HK.out | apply KeepBut.set_ | apply keep_drewN | apply keep_drew | apply keep_alloc | refine keep_far ?_ GW317.out _) | exact HK.out)))); have n2_ := aM (KeepBut.trans (by repeat (first | (with_reducible first | exact HK.out | apply KeepBut.set_ | apply keep_drewN | apply keep_drew | apply keep_alloc | refine keep_far ?_ GW317.out _) | exact HK.out)) hk (.inl rfl)); have n3_ := aM (hb); have n4_ := aM (hi); clear BK317 HK; clear HB HI0; have BK317 := n0_; have HO321 := n1_; have HK := n2_; have HB := n3_; have HI0 := n4_; clear n0_ n1_ n2_ n3_ n4_; (try clear hb); (try clear hk); (try clear hi); (try clear ho0)) | ((with_reducible refine gate_dst (N := 3) rfl ?_); refine box_event ?hg (N := 3) ?hd (cs := #[.int .i64 0, .slice none 0 0]) (t := 129) ?hr ?_; (case hd => rfl); (case hg => rfl); (case hr => first | (go_simp; done) | (go_simp; rfl) | (obtain ⟨A_, c_, e_⟩ := Kd.R_slice HO321.out; subst e_; (first | (go_simp; done) | (go_simp; rfl))) | (obtain ⟨A_, c_, e_⟩ := Kd.S_slice HO321.out; subst e_; (first | (go_simp; done) | (go_simp; rfl)))); intro gb324 hg w39 hbox hb; have n0_ := aM (kB (kr HO321.out) hb); have n1_ := aM (IsS152.below (by repeat (first | (with_reducible first | exact HI0.out | apply IsS152.alloc | apply IsS152.drewN | apply IsS152.drew | apply IsS152.set_1 | apply IsS152.set_2 | refine IsS152.far ?_ NB0_317.out _) | exact HI0.out)) hb); have n2_ := aM (bB (g := gb317) (o := .cells #[.int .i64 0, .slice none 0 0] 129 (0, 0)) (bk BK317.out) hb); have n3_ := aM (KeepBut.trans (by repeat (first | (with_reducible first | exact HK.out | apply KeepBut.set_ | apply keep_drewN | apply keep_drew | apply keep_alloc | refine keep_far ?_ GW317.out _) | exact HK.out)) (KeepBut.of_below hb g none) (.inl rfl)); have n4_ := aM (bS (by repeat (first | (with_reducible first | exact HB.out | apply below_alloc | apply pw_below_drewN | apply below_drew1 | refine below_set ?_ (IsS152.ge HI0.out) | refine below_set ?_ GE317.out) | exact HB.out)) hb); have n5_ := aM (hbox); have n6_ := aM ((by rw [hg]; exact (keep_size (w := w) (g := g) (row := none) (by repeat (first | (with_reducible first | exact HK.out | apply KeepBut.set_ | apply keep_drewN | apply keep_drew | apply keep_alloc | refine keep_far ?_ GW317.out _) | exact HK.out))) : w.heap.size ≤ gb324)); have n7_ := aM ((Nat.le_trans HW0.out (by rw [hg]; exact (keep_size (w := w) (g := g) (row := none) (by repeat (first | (with_reducible first | exact HK.out | apply KeepBut.set_ | apply keep_drewN | apply keep_drew | apply keep_alloc | refine keep_far ?_ GW317.out _) | exact HK.out))) : w.heap.size ≤ gb324) : w0.heap.size ≤ gb324)); have n8_ := aM ((by rw [hg]; exact Nat.ne_of_lt (blk_lt (g := gb317) (o := .cells #[.int .i64 0, .slice none 0 0] 129 (0, 0)) (bk BK317.out)) : gb317 ≠ gb324)); have n9_ := aM ((by rw [hg]; exact Nat.ne_of_gt (blk_lt (g := gb317) (o := .cells #[.int .i64 0, .slice none 0 0] 129 (0, 0)) (bk BK317.out)) : gb324 ≠ gb317)); have n10_ := aM ((by rw [hg]; exact Nat.ne_of_lt (IsS152.lt (show IsS152 w0 _ g s0_0 t322 t323 from by repeat (first | (with_reducible first | exact HI0.out | apply IsS152.alloc | apply IsS152.drewN | apply IsS152.drew | apply IsS152.set_1 | apply IsS152.set_2 | refine IsS152.far ?_ NB0_317.out _) | exact HI0.out))) : g ≠ gb324)); have n11_ := aM ((by rw [hg]; exact Nat.ne_of_gt (IsS152.lt (show IsS152 w0 _ g s0_0 t322 t323 from by repeat (first | (with_reducible first | exact HI0.out | apply IsS152.alloc | apply IsS152.drewN | apply IsS152.drew | apply IsS152.set_1 | apply IsS152.set_2 | refine IsS152.far ?_ NB0_317.out _) | exact HI0.out))) : gb324 ≠ g)); clear HO321 HI0; clear BK317 HK HB; have HO321 := n0_; have HI0 := n1_; have BK317 := n2_; have HK := n3_; have HB := n4_; have BK324 := n5_; have GW324 := n6_; have GE324 := n7_; have NB317_324 := n8_; have NB324_317 := n9_; have NB0_324 := n10_; have NB324_0 := n11_; clear n0_ n1_ n2_ n3_ n4_ n5_ n6_ n7_ n8_ n9_ n10_ n11_; clear hb hbox hg; have hnb40 := NB324_317.out; have hnc40 := NB317_324.out; have hnb41 := NB324_0.out; have hnc41 := NB0_324.out; have hcz42_0 := cI BK324.out 0; have hcz42_1 := cI BK324.out 1; have hfz42_0 := bF BK324.out 0; have hfz42_1 := bF BK324.out 1; obtain ⟨Ao43, co43, eo43⟩ := Kd.R_slice HO321.out; subst eo43) | ((with_reducible refine gate_callee (f := 74) rfl ?_); refine goesL_ (some 7) rfl rfl Try.func74 (by kernel_rfl) rfl #[.pointer (some ⟨g, 0, none⟩), .int .i64 8] rfl xR ?_; (with_reducible refine (spec_l1Below.calls g s0_0 t322 t323 8 t325 t326 t327 w0 _ ?side1 ?side2 A3.out).mono ?_); (case side1 => repeat (first | (with_reducible first | exact HI0.out | apply IsS152.alloc | apply IsS152.drewN | apply IsS152.drew | apply IsS152.set_1 | apply IsS152.set_2 | refine IsS152.far ?_ NB0_317.out _ | refine IsS152.far ?_ NB0_324.out _) | exact HI0.out)); (case side2 => repeat (first | (with_reducible first | exact HB.out | apply below_alloc | apply pw_below_drewN | apply below_drew1 | refine below_set ?_ (IsS152.ge HI0.out) | refine below_set ?_ GE317.out | refine below_set ?_ GE324.out) | exact HB.out)); rintro e w44 ⟨rfl, hi, hb, hk⟩; refine ⟨_, rfl, ?_⟩; have n0_ := aM (KeepBut.blk hk (g' := gb317) (o := .cells #[.int .i64 0, .slice none 0 0] 129 (0, 0)) (by (with_reducible repeat (first | refine blk_drewN ?_ _ | refine blk_drew ?_ | refine blk_alloc ?_ _)); refine blk_far ?_ NB317_324.out _; (with_reducible repeat (first | refine blk_drewN ?_ _ | refine blk_drew ?_ | refine blk_alloc ?_ _)); refine blk_far ?_ NB317_324.out _; (with_reducible repeat (first | refine blk_drewN ?_ _ | refine blk_drew ?_ | refine blk_alloc ?_ _)); exact BK317.out) NB317_0.out (by simp)); have n1_ := aM (Kd.R_mono (Kd.R_keep (IsS152.apart (show IsS152 w0 _ g s0_0 t322 t323 from by repeat (first | (with_reducible first | exact HI0.out | apply IsS152.alloc | apply IsS152.drewN | apply IsS152.drew | apply IsS152.set_1 | apply IsS152.set_2 | refine IsS152.far ?_ NB0_317.out _ | refine IsS152.far ?_ NB0_324.out _) | exact HI0.out)) (kr (Kd.R_mono (kF (p := ⟨gb324, 1, none⟩) (kF (p := ⟨gb324, 0, none⟩) (Kd.R_types HO321.out BK324.out (by decide)) (fun _ hk => hk.2) (.int .i64 t318)) (fun _ hk => hk.2) (.slice Ao43 t319.length co43)) (fun _ h_ => h_.1))) (by decide)) hk (fun _ h => h.2)) (fun _ h => h.1)); have n2_ := aM (KeepBut.blk hk (g' := gb324) (o := .cells #[.int .i64 t318, .slice Ao43 t319.length co43] 129 (0, 0)) (by (with_reducible repeat (first | refine blk_drewN ?_ _ | refine blk_drew ?_ | refine blk_alloc ?_ _)); refine blk_put (cs := #[.int .i64 t318, .slice none 0 0]) ?_ 1 _ rfl; (with_reducible repeat (first | refine blk_drewN ?_ _ | refine blk_drew ?_ | refine blk_alloc ?_ _)); refine blk_put (cs := #[.int .i64 0, .slice none 0 0]) ?_ 0 _ rfl; (with_reducible repeat (first | refine blk_drewN ?_ _ | refine blk_drew ?_ | refine blk_alloc ?_ _)); exact BK324.out) NB324_0.out (by simp)); have n3_ := aM (KeepBut.trans (by repeat (first | (with_reducible first | exact HK.out | apply KeepBut.set_ | apply keep_drewN | apply keep_drew | apply keep_alloc | refine keep_far ?_ GW317.out _ | refine keep_far ?_ GW324.out _) | exact HK.out)) hk (.inl rfl)); have n4_ := aM (hb); have n5_ := aM (hi); clear BK317 HO321; clear BK324 HK; clear HB HI0; have BK317 := n0_; have HO321 := n1_; have BK324 := n2_; have HK := n3_; have HB := n4_; have HI0 := n5_; clear n0_ n1_ n2_ n3_ n4_ n5_; (try clear hb); (try clear hk); (try clear hi); have hcz45_0 := cI BK324.out 0; have hcz45_1 := cI BK324.out 1; have hfz45_0 := bF BK324.out 0; have hfz45_1 := bF BK324.out 1; have hnb46 := NB317_0.out; have hnc46 := NB0_317.out; have hcz47_0 := cI BK317.out 0; have hcz47_1 := cI BK317.out 1; have hfz47_0 := bF BK317.out 0; have hfz47_1 := bF BK317.out 1))
  refine bodyPost_ret (results_cell_row rfl _ _ gb317 129 #[.int .i64 t318, .slice Ao43 t319.length co43] (0, 0) _ rfl (by (with_reducible repeat (first | refine blk_drewN ?_ _ | refine blk_drew ?_ | refine blk_alloc ?_ _)); refine blk_put (cs := #[.int .i64 t318, .slice none 0 0]) ?_ 1 _ rfl; (with_reducible repeat (first | refine blk_drewN ?_ _ | refine blk_drew ?_ | refine blk_alloc ?_ _)); refine blk_put (cs := #[.int .i64 0, .slice none 0 0]) ?_ 0 _ rfl; (with_reducible repeat (first | refine blk_drewN ?_ _ | refine blk_drew ?_ | refine blk_alloc ?_ _)); exact BK317.out) Try.underlying129 rfl (by kernel_rfl)) rfl ?_
  exact ⟨_, xW, by (with_reducible repeat (first | apply Kd.R_alloc | apply Kd.R_drewN | apply Kd.R_drew)); exact Kd.R_mono (kF (p := ⟨gb317, 1, none⟩) (kF (p := ⟨gb317, 0, none⟩) (Kd.R_types HO321.out BK317.out (by decide)) (fun _ hk => hk.2) (.int .i64 t318)) (fun _ hk => hk.2) (.slice Ao43 t319.length co43)) (fun _ hk => trivial), by repeat (first | (with_reducible first | exact HI0.out | apply IsS152.alloc | apply IsS152.drewN | apply IsS152.drew | apply IsS152.set_1 | apply IsS152.set_2 | refine IsS152.far ?_ NB0_317.out _ | refine IsS152.far ?_ NB0_324.out _) | exact HI0.out), by repeat (first | (with_reducible first | exact HB.out | apply below_alloc | apply pw_below_drewN | apply below_drew1 | refine below_set ?_ (IsS152.ge HI0.out) | refine below_set ?_ GE317.out | refine below_set ?_ GE324.out) | exact HB.out), by repeat (first | (with_reducible first | exact HK.out | apply KeepBut.set_ | apply keep_drewN | apply keep_drew | apply keep_alloc | refine keep_far ?_ GW317.out _ | refine keep_far ?_ GW324.out _) | exact HK.out)⟩
 rw [if_pos c18] at H
 have c18b0 : (t325 == 1) = true := beq_iff_eq.mpr c18
 have c18b1 : (t325 != 1) = false := bne_eq_false_iff_eq.mpr c18
 clear c18
 replace H := Option.bind_eq_some_iff.mp H
 obtain ⟨⟨t331, t332, t333⟩, A190, H⟩ := H
 replace H : (if t319.length < 17592186044416 then (some (t318, (t319 ++ [t331]), t332, t333)) else (none)) = some (r1, r2, r3, r4) := H
 have A19 := aM A190
 clear A190
 by_cases c20 : t319.length < 17592186044416
 case neg =>
  rw [if_neg c20] at H
  exact absurd H (by simp)
 rw [if_pos c20] at H
 have LMc20 := aM c20
 clear c20
 obtain ⟨y334, hy334⟩ : ∃ y_ : List Int, y_ = (t319 ++ [t331]) := ⟨_, rfl⟩
 replace H : (some (t318, y334, t332, t333)) = some (r1, r2, r3, r4) := by first | (rw [hy334]; with_reducible exact H) | (have H2_ := (Option.bind_some _ _).symm.trans H; rw [hy334]; with_reducible exact H2_) | (have H2_ := (Option.bind_some _ _).symm.trans H; with_reducible exact H2_) | with_reducible exact H | (rw [hy334]; exact H) | exact H
 have Ny334 := aM hy334
 clear hy334
 simp only [Option.some.injEq, Prod.mk.injEq] at H
 obtain ⟨rfl, rfl, rfl, rfl⟩ := H
 go_enter Try.func155, Try.ntmps155
 try go_wp2_with (first | ((with_reducible refine gate_dst (N := 2) rfl ?_); refine box_event ?hg (N := 2) ?hd (cs := #[.int .i64 0, .slice none 0 0]) (t := 129) ?hr ?_; (case hd => rfl); (case hg => rfl); (case hr => first | (go_simp; done) | (go_simp; rfl) | (obtain ⟨A_, c_, e_⟩ := Kd.R_slice HO321.out; subst e_; (first | (go_simp; done) | (go_simp; rfl))) | (obtain ⟨A_, c_, e_⟩ := Kd.S_slice HO321.out; subst e_; (first | (go_simp; done) | (go_simp; rfl)))); intro gb317 hg w21 hbox hb; have n0_ := aM (IsS152.below (by repeat (first | (with_reducible first | exact HI0.out | apply IsS152.alloc | apply IsS152.drewN | apply IsS152.drew | apply IsS152.set_1 | apply IsS152.set_2) | exact HI0.out)) hb); have n1_ := aM (KeepBut.trans (by repeat (first | (with_reducible first | exact HK.out | apply KeepBut.set_ | apply keep_drewN | apply keep_drew | apply keep_alloc) | exact HK.out)) (KeepBut.of_below hb g none) (.inl rfl)); have n2_ := aM (bS (by repeat (first | (with_reducible first | exact HB.out | apply below_alloc | apply pw_below_drewN | apply below_drew1 | refine below_set ?_ (IsS152.ge HI0.out)) | exact HB.out)) hb); have n3_ := aM (hbox); have n4_ := aM ((by rw [hg]; exact (keep_size (w := w) (g := g) (row := none) (by repeat (first | (with_reducible first | exact HK.out | apply KeepBut.set_ | apply keep_drewN | apply keep_drew | apply keep_alloc) | exact HK.out))) : w.heap.size ≤ gb317)); have n5_ := aM ((Nat.le_trans HW0.out (by rw [hg]; exact (keep_size (w := w) (g := g) (row := none) (by repeat (first | (with_reducible first | exact HK.out | apply KeepBut.set_ | apply keep_drewN | apply keep_drew | apply keep_alloc) | exact HK.out))) : w.heap.size ≤ gb317) : w0.heap.size ≤ gb317)); have n6_ := aM ((by rw [hg]; exact Nat.ne_of_lt (IsS152.lt (show IsS152 w0 _ g s0_0 s0_1 s0_2 from by repeat (first | (with_reducible first | exact HI0.out | apply IsS152.alloc | apply IsS152.drewN | apply IsS152.drew | apply IsS152.set_1 | apply IsS152.set_2) | exact HI0.out))) : g ≠ gb317)); have n7_ := aM ((by rw [hg]; exact Nat.ne_of_gt (IsS152.lt (show IsS152 w0 _ g s0_0 s0_1 s0_2 from by repeat (first | (with_reducible first | exact HI0.out | apply IsS152.alloc | apply IsS152.drewN | apply IsS152.drew | apply IsS152.set_1 | apply IsS152.set_2) | exact HI0.out))) : gb317 ≠ g)); clear HI0 HK HB; have HI0 := n0_; have HK := n1_; have HB := n2_; have BK317 := n3_; have GW317 := n4_; have GE317 := n5_; have NB0_317 := n6_; have NB317_0 := n7_; clear n0_ n1_ n2_ n3_ n4_ n5_ n6_ n7_; clear hb hbox hg) | ((with_reducible refine gate_callee (f := 174) rfl ?_); refine goesL_ (some 5) rfl rfl Try.func174 (by kernel_rfl) rfl #[.pointer (some ⟨g, 0, none⟩)] rfl xR ?_; (with_reducible refine (spec_l4DrawRight.calls k g s0_0 s0_1 s0_2 t318 t319 t322 t323 w0 _ ?side1 ?side2 A2.out).mono ?_); (case side1 => repeat (first | (with_reducible first | exact HI0.out | apply IsS152.alloc | apply IsS152.drewN | apply IsS152.drew | apply IsS152.set_1 | apply IsS152.set_2 | refine IsS152.far ?_ NB0_317.out _) | exact HI0.out)); (case side2 => repeat (first | (with_reducible first | exact HB.out | apply below_alloc | apply pw_below_drewN | apply below_drew1 | refine below_set ?_ (IsS152.ge HI0.out) | refine below_set ?_ GE317.out) | exact HB.out)); rintro e w22 ⟨v320, rfl, ho0, hi, hb, hk⟩; refine ⟨_, rfl, ?_⟩; have n0_ := aM (KeepBut.blk hk (g' := gb317) (o := .cells #[.int .i64 0, .slice none 0 0] 129 (0, 0)) (bk BK317.out) NB317_0.out (by simp)); have n1_ := aM (Kd.R_lower ho0 (keep_size (w := w) (g := g) (row := none) (by repeat (first | (with_reducible first | exact HK.out | apply KeepBut.set_ | apply keep_drewN | apply keep_drew | apply keep_alloc | refine keep_far ?_ GW317.out _) | exact HK.out)))); have n2_ := aM (KeepBut.trans (by repeat (first | (with_reducible first | exact HK.out | apply KeepBut.set_ | apply keep_drewN | apply keep_drew | apply keep_alloc | refine keep_far ?_ GW317.out _) | exact HK.out)) hk (.inl rfl)); have n3_ := aM (hb); have n4_ := aM (hi); clear BK317 HK; clear HB HI0; have BK317 := n0_; have HO321 := n1_; have HK := n2_; have HB := n3_; have HI0 := n4_; clear n0_ n1_ n2_ n3_ n4_; (try clear hb); (try clear hk); (try clear hi); (try clear ho0)) | ((with_reducible refine gate_dst (N := 3) rfl ?_); refine box_event ?hg (N := 3) ?hd (cs := #[.int .i64 0, .slice none 0 0]) (t := 129) ?hr ?_; (case hd => rfl); (case hg => rfl); (case hr => first | (go_simp; done) | (go_simp; rfl) | (obtain ⟨A_, c_, e_⟩ := Kd.R_slice HO321.out; subst e_; (first | (go_simp; done) | (go_simp; rfl))) | (obtain ⟨A_, c_, e_⟩ := Kd.S_slice HO321.out; subst e_; (first | (go_simp; done) | (go_simp; rfl)))); intro gb324 hg w23 hbox hb; have n0_ := aM (kB (kr HO321.out) hb); have n1_ := aM (IsS152.below (by repeat (first | (with_reducible first | exact HI0.out | apply IsS152.alloc | apply IsS152.drewN | apply IsS152.drew | apply IsS152.set_1 | apply IsS152.set_2 | refine IsS152.far ?_ NB0_317.out _) | exact HI0.out)) hb); have n2_ := aM (bB (g := gb317) (o := .cells #[.int .i64 0, .slice none 0 0] 129 (0, 0)) (bk BK317.out) hb); have n3_ := aM (KeepBut.trans (by repeat (first | (with_reducible first | exact HK.out | apply KeepBut.set_ | apply keep_drewN | apply keep_drew | apply keep_alloc | refine keep_far ?_ GW317.out _) | exact HK.out)) (KeepBut.of_below hb g none) (.inl rfl)); have n4_ := aM (bS (by repeat (first | (with_reducible first | exact HB.out | apply below_alloc | apply pw_below_drewN | apply below_drew1 | refine below_set ?_ (IsS152.ge HI0.out) | refine below_set ?_ GE317.out) | exact HB.out)) hb); have n5_ := aM (hbox); have n6_ := aM ((by rw [hg]; exact (keep_size (w := w) (g := g) (row := none) (by repeat (first | (with_reducible first | exact HK.out | apply KeepBut.set_ | apply keep_drewN | apply keep_drew | apply keep_alloc | refine keep_far ?_ GW317.out _) | exact HK.out))) : w.heap.size ≤ gb324)); have n7_ := aM ((Nat.le_trans HW0.out (by rw [hg]; exact (keep_size (w := w) (g := g) (row := none) (by repeat (first | (with_reducible first | exact HK.out | apply KeepBut.set_ | apply keep_drewN | apply keep_drew | apply keep_alloc | refine keep_far ?_ GW317.out _) | exact HK.out))) : w.heap.size ≤ gb324) : w0.heap.size ≤ gb324)); have n8_ := aM ((by rw [hg]; exact Nat.ne_of_lt (blk_lt (g := gb317) (o := .cells #[.int .i64 0, .slice none 0 0] 129 (0, 0)) (bk BK317.out)) : gb317 ≠ gb324)); have n9_ := aM ((by rw [hg]; exact Nat.ne_of_gt (blk_lt (g := gb317) (o := .cells #[.int .i64 0, .slice none 0 0] 129 (0, 0)) (bk BK317.out)) : gb324 ≠ gb317)); have n10_ := aM ((by rw [hg]; exact Nat.ne_of_lt (IsS152.lt (show IsS152 w0 _ g s0_0 t322 t323 from by repeat (first | (with_reducible first | exact HI0.out | apply IsS152.alloc | apply IsS152.drewN | apply IsS152.drew | apply IsS152.set_1 | apply IsS152.set_2 | refine IsS152.far ?_ NB0_317.out _) | exact HI0.out))) : g ≠ gb324)); have n11_ := aM ((by rw [hg]; exact Nat.ne_of_gt (IsS152.lt (show IsS152 w0 _ g s0_0 t322 t323 from by repeat (first | (with_reducible first | exact HI0.out | apply IsS152.alloc | apply IsS152.drewN | apply IsS152.drew | apply IsS152.set_1 | apply IsS152.set_2 | refine IsS152.far ?_ NB0_317.out _) | exact HI0.out))) : gb324 ≠ g)); clear HO321 HI0; clear BK317 HK HB; have HO321 := n0_; have HI0 := n1_; have BK317 := n2_; have HK := n3_; have HB := n4_; have BK324 := n5_; have GW324 := n6_; have GE324 := n7_; have NB317_324 := n8_; have NB324_317 := n9_; have NB0_324 := n10_; have NB324_0 := n11_; clear n0_ n1_ n2_ n3_ n4_ n5_ n6_ n7_ n8_ n9_ n10_ n11_; clear hb hbox hg; have hnb24 := NB324_317.out; have hnc24 := NB317_324.out; have hnb25 := NB324_0.out; have hnc25 := NB0_324.out; have hcz26_0 := cI BK324.out 0; have hcz26_1 := cI BK324.out 1; have hfz26_0 := bF BK324.out 0; have hfz26_1 := bF BK324.out 1; obtain ⟨Ao27, co27, eo27⟩ := Kd.R_slice HO321.out; subst eo27) | ((with_reducible refine gate_callee (f := 74) rfl ?_); refine goesL_ (some 7) rfl rfl Try.func74 (by kernel_rfl) rfl #[.pointer (some ⟨g, 0, none⟩), .int .i64 8] rfl xR ?_; (with_reducible refine (spec_l1Below.calls g s0_0 t322 t323 8 t325 t326 t327 w0 _ ?side1 ?side2 A3.out).mono ?_); (case side1 => repeat (first | (with_reducible first | exact HI0.out | apply IsS152.alloc | apply IsS152.drewN | apply IsS152.drew | apply IsS152.set_1 | apply IsS152.set_2 | refine IsS152.far ?_ NB0_317.out _ | refine IsS152.far ?_ NB0_324.out _) | exact HI0.out)); (case side2 => repeat (first | (with_reducible first | exact HB.out | apply below_alloc | apply pw_below_drewN | apply below_drew1 | refine below_set ?_ (IsS152.ge HI0.out) | refine below_set ?_ GE317.out | refine below_set ?_ GE324.out) | exact HB.out)); rintro e w28 ⟨rfl, hi, hb, hk⟩; refine ⟨_, rfl, ?_⟩; have n0_ := aM (KeepBut.blk hk (g' := gb317) (o := .cells #[.int .i64 0, .slice none 0 0] 129 (0, 0)) (by (with_reducible repeat (first | refine blk_drewN ?_ _ | refine blk_drew ?_ | refine blk_alloc ?_ _)); refine blk_far ?_ NB317_324.out _; (with_reducible repeat (first | refine blk_drewN ?_ _ | refine blk_drew ?_ | refine blk_alloc ?_ _)); refine blk_far ?_ NB317_324.out _; (with_reducible repeat (first | refine blk_drewN ?_ _ | refine blk_drew ?_ | refine blk_alloc ?_ _)); exact BK317.out) NB317_0.out (by simp)); have n1_ := aM (Kd.R_mono (Kd.R_keep (IsS152.apart (show IsS152 w0 _ g s0_0 t322 t323 from by repeat (first | (with_reducible first | exact HI0.out | apply IsS152.alloc | apply IsS152.drewN | apply IsS152.drew | apply IsS152.set_1 | apply IsS152.set_2 | refine IsS152.far ?_ NB0_317.out _ | refine IsS152.far ?_ NB0_324.out _) | exact HI0.out)) (kr (Kd.R_mono (kF (p := ⟨gb324, 1, none⟩) (kF (p := ⟨gb324, 0, none⟩) (Kd.R_types HO321.out BK324.out (by decide)) (fun _ hk => hk.2) (.int .i64 t318)) (fun _ hk => hk.2) (.slice Ao27 t319.length co27)) (fun _ h_ => h_.1))) (by decide)) hk (fun _ h => h.2)) (fun _ h => h.1)); have n2_ := aM (KeepBut.blk hk (g' := gb324) (o := .cells #[.int .i64 t318, .slice Ao27 t319.length co27] 129 (0, 0)) (by (with_reducible repeat (first | refine blk_drewN ?_ _ | refine blk_drew ?_ | refine blk_alloc ?_ _)); refine blk_put (cs := #[.int .i64 t318, .slice none 0 0]) ?_ 1 _ rfl; (with_reducible repeat (first | refine blk_drewN ?_ _ | refine blk_drew ?_ | refine blk_alloc ?_ _)); refine blk_put (cs := #[.int .i64 0, .slice none 0 0]) ?_ 0 _ rfl; (with_reducible repeat (first | refine blk_drewN ?_ _ | refine blk_drew ?_ | refine blk_alloc ?_ _)); exact BK324.out) NB324_0.out (by simp)); have n3_ := aM (KeepBut.trans (by repeat (first | (with_reducible first | exact HK.out | apply KeepBut.set_ | apply keep_drewN | apply keep_drew | apply keep_alloc | refine keep_far ?_ GW317.out _ | refine keep_far ?_ GW324.out _) | exact HK.out)) hk (.inl rfl)); have n4_ := aM (hb); have n5_ := aM (hi); clear BK317 HO321; clear BK324 HK; clear HB HI0; have BK317 := n0_; have HO321 := n1_; have BK324 := n2_; have HK := n3_; have HB := n4_; have HI0 := n5_; clear n0_ n1_ n2_ n3_ n4_ n5_; (try clear hb); (try clear hk); (try clear hi)))
 have n0_ := aM (Kd.R_drew HO321.out)
 have n1_ := aM (blk_drew BK317.out)
 have n2_ := aM (blk_drew BK324.out)
 have n3_ := aM (IsS152.drew HI0.out)
 have n4_ := aM (keep_drew HK.out)
 have n5_ := aM (below_drew1 HB.out)
 clear HO321 BK317
 clear BK324 HI0
 clear HK HB
 have HO321 := n0_
 have BK317 := n1_
 have BK324 := n2_
 have HI0 := n3_
 have HK := n4_
 have HB := n5_
 clear n0_ n1_ n2_ n3_ n4_ n5_
 refine start_ (n := 8) (S := fun w' => w'.cell? ⟨gb324, 0, none⟩ = some (.int .i64 t318) ∧ w'.cell? ⟨gb324, 1, none⟩ = some (.slice Ao27 t319.length co27)) (ds := [7]) #[U,U,U,U,U,U,U,U] (by kernel_rfl) rfl rfl ⟨cI BK324.out 0, cI BK324.out 1⟩ (fun hHeld => ?_); refine with_tabW spec_l4Draw.tab6 spec_l4Draw.bits6 (fun HT_ HW_ => ?_)
 generalize w28.drew = w29 at HO321 BK317 BK324 HI0 HK HB hHeld ⊢
 refine pure_ (i := 0) (N := some 15) (v := ?_) (a' := ?_) #[Y,U,U,U,U,U,U,U] rfl rfl (any_of HT_.out (by kernel_rfl)) (fun _ _ _ h => h) (Or.inl ⟨by rfl, ?_⟩) ?_ ?_
 rotate_left
 ·intro w'
  go_simp
  with_reducible rfl
 rotate_left
 ·simp only [Act.put, sA, sZ, sS, i64_w, i32_w]
  rfl
 refine pure_ (i := 2) (N := some 17) (v := ?_) (a' := ?_) #[Y,U,Y,U,U,U,U,U] rfl rfl (any_of HT_.out (by kernel_rfl)) (fun _ _ _ h => h) (Or.inl ⟨by rfl, ?_⟩) ?_ ?_
 rotate_left
 ·intro w'
  go_simp
  with_reducible rfl
 rotate_left
 ·simp only [Act.put, sA, sZ, sS, i64_w, i32_w]
  rfl
 refine take_ (i := 1) (N := some 16) (v := ?_) (a' := ?_) #[Y,Y,Y,U,U,U,U,U] rfl rfl (take_ofW HT_.out HW_.out (by kernel_rfl)) (fun _ _ _ h => h) (Or.inl ⟨by rfl, ?_⟩) hHeld ?_ ?_
 rotate_left
 ·rintro w' ⟨s0, s1⟩
  go_simp
  with_reducible rfl
 rotate_left
 ·simp only [Act.put, sA, sZ, sS, i64_w, i32_w]
  rfl
 refine one_ (i := 3) (N := some 18) #[Y,Y,Y,Y,U,U,U,U] rfl rfl (one_of HT_.out (by kernel_rfl)) (by decide) (fun K hK => ?_)
 refine goes_ Try.func74 (by kernel_rfl) rfl #[.pointer (some ⟨g, 0, none⟩), .int .i64 6] (by rfl) rfl rfl xR ?_
 with_reducible refine (spec_l1Below.calls g s0_0 t326 t327 6 t331 t332 t333 w0 _ ?side1 ?side2 A19.out).mono ?_
 (case side1 => repeat (first | (with_reducible first | exact HI0.out | apply IsS152.alloc | apply IsS152.drewN | apply IsS152.drew | apply IsS152.set_1 | apply IsS152.set_2 | refine IsS152.far ?_ NB0_317.out _ | refine IsS152.far ?_ NB0_324.out _) | exact HI0.out))
 (case side2 => repeat (first | (with_reducible first | exact HB.out | apply below_alloc | apply pw_below_drewN | apply below_drew1 | refine below_set ?_ (IsS152.ge HI0.out) | refine below_set ?_ GE317.out | refine below_set ?_ GE324.out) | exact HB.out))
 rintro e w30 ⟨rfl, hi, hb, hk⟩
 refine ⟨_, rfl, ?_⟩
 have n0_ := aM (KeepBut.blk hk (g' := gb317) (o := .cells #[.int .i64 0, .slice none 0 0] 129 (0, 0)) (bk BK317.out) NB317_0.out (by simp))
 have n1_ := aM (Kd.R_mono (Kd.R_keep (IsS152.apart (show IsS152 w0 _ g s0_0 t326 t327 from by repeat (first | (with_reducible first | exact HI0.out | apply IsS152.alloc | apply IsS152.drewN | apply IsS152.drew | apply IsS152.set_1 | apply IsS152.set_2 | refine IsS152.far ?_ NB0_317.out _ | refine IsS152.far ?_ NB0_324.out _) | exact HI0.out)) (kr HO321.out) (by decide)) hk (fun _ h => h.2)) (fun _ h => h.1))
 have n2_ := aM (KeepBut.blk hk (g' := gb324) (o := .cells #[.int .i64 t318, .slice Ao27 t319.length co27] 129 (0, 0)) (bk BK324.out) NB324_0.out (by simp))
 have n3_ := aM (KeepBut.trans (by repeat (first | (with_reducible first | exact HK.out | apply KeepBut.set_ | apply keep_drewN | apply keep_drew | apply keep_alloc | refine keep_far ?_ GW317.out _ | refine keep_far ?_ GW324.out _) | exact HK.out)) hk (.inl rfl))
 have n4_ := aM (hb)
 have n5_ := aM (hi)
 clear BK317 HO321
 clear BK324 HK
 clear HB HI0
 have BK317 := n0_
 have HO321 := n1_
 have BK324 := n2_
 have HK := n3_
 have HB := n4_
 have HI0 := n5_
 clear n0_ n1_ n2_ n3_ n4_ n5_
 (try clear hb)
 (try clear hb2)
 (try clear hk)
 (try clear hi)
 refine hK.out _ _ ⟨cI BK324.out 0, cI BK324.out 1⟩ (fun hHeld => ?_)
 clear hK K
 refine norm_ (a' := ?_) ?_ ?_
 rotate_left
 ·show Act.put _ (some 18) _ = _
  simp only [Act.put, sA, sZ, sS, i64_w, i32_w]
  rfl
 refine one_ (i := 4) (N := some 19) #[Y,Y,Y,Y,Y,U,U,U] rfl rfl (one_of HT_.out (by kernel_rfl)) (by decide) (fun K hK => ?_)
 refine value_ (w1 := ?_) (v := ?_) (by rfl) rfl ?_ ?_
 rotate_left 2
 ·go_simp
  constructor
  ·rfl
  ·rfl
 refine hK.out _ _ ⟨(bC (blk_alloc BK324.out _) 0).trans rfl, (bC (blk_alloc BK324.out _) 1).trans rfl⟩ (fun hHeld => ?_)
 clear hK K
 refine norm_ (a' := ?_) ?_ ?_
 rotate_left
 ·show Act.put _ (some 19) _ = _
  simp only [Act.put, sA, sZ, sS, i64_w, i32_w]
  rfl
 refine one_ (i := 5) (N := some 20) #[Y,Y,Y,Y,Y,Y,U,U] rfl rfl (one_of HT_.out (by kernel_rfl)) (by decide) (fun K hK => ?_)
 refine Kd.R_append_step (Kd.int .i64) w.heap.size (by rfl) (.tmp 16) (.tmp 19) 115 3 (.int .i64 0) 8 rfl Try.underlying115 info3 rfl (by decide) (by omega) (.slice Ao27 t319.length co27) t319 t331 [.int .i64 t331] (fun _ => True) (fun _ => False) rfl rfl ?aP (fun _ hk => hk.elim) ?aF ?aO (Below.refl _ _) ?aS ?aL ?_
 (case aP => exact rfl)
 (case aF => exact (fun _ _ => trivial))
 (case aO => exact (kr HO321.out))
 (case aS => exact (keep_size (w := w) (g := g) (row := none) (by repeat (first | (with_reducible first | exact HK.out | apply KeepBut.set_ | apply keep_drewN | apply keep_drew | apply keep_alloc | refine keep_far ?_ GW317.out _ | refine keep_far ?_ GW324.out _) | exact HK.out))))
 (case aL => have := LMc20.out; omega)
 intro v335 w31 ho hb hg hat
 rw [← Ny334.out] at ho
 have n0_ := aM (IsS152.grown (by repeat (first | (with_reducible first | exact HI0.out | apply IsS152.alloc | apply IsS152.drewN | apply IsS152.drew | apply IsS152.set_1 | apply IsS152.set_2 | refine IsS152.far ?_ NB0_317.out _ | refine IsS152.far ?_ NB0_324.out _) | exact HI0.out)) hg (IsS152.own_ne HI0.out HO321.out (by decide)))
 have n1_ := aM (blk_grown (g := gb317) (o := .cells #[.int .i64 0, .slice none 0 0] 129 (0, 0)) (bk BK317.out) hg (Kd.R_ne HO321.out BK317.out (by decide)))
 have n2_ := aM (blk_grown (g := gb324) (o := .cells #[.int .i64 t318, .slice Ao27 t319.length co27] 129 (0, 0)) (bk BK324.out) hg (Kd.R_ne HO321.out BK324.out (by decide)))
 have n3_ := aM (below_weaken (by repeat (first | (with_reducible first | exact HB.out | apply below_alloc | apply pw_below_drewN | apply below_drew1 | refine below_set ?_ (IsS152.ge HI0.out) | refine below_set ?_ GE317.out | refine below_set ?_ GE324.out) | exact HB.out)) HL.out hb)
 have n4_ := aM (KeepBut.trans (by repeat (first | (with_reducible first | exact HK.out | apply KeepBut.set_ | apply keep_drewN | apply keep_drew | apply keep_alloc | refine keep_far ?_ GW317.out _ | refine keep_far ?_ GW324.out _) | exact HK.out)) (KeepBut.of_grown hg g) (Kd.R_base2 HO321.out))
 have n5_ := aM (ho)
 clear HI0 BK317
 clear BK324 HB
 clear HK HO321
 have HI0 := n0_
 have BK317 := n1_
 have BK324 := n2_
 have HB := n3_
 have HK := n4_
 have HO336 := n5_
 clear n0_ n1_ n2_ n3_ n4_ n5_
 clear ho hb hg hat
 obtain ⟨Ao32, co32, eo32⟩ := Kd.R_slice HO336.out
 (first | subst eo32 | (injection eo32 with f1_ f2_ f3_; have f4_ := f1_.symm; have f5_ := f3_.symm; clear f1_ f2_ f3_; subst f4_; subst f5_))
 refine hK.out _ _ ⟨cI BK324.out 0, cI BK324.out 1⟩ (fun hHeld => ?_)
 clear hK K
 refine norm_ (a' := ?_) ?_ ?_
 rotate_left
 ·show Act.put _ (some 20) _ = _
  simp only [Act.put, sA, sZ, sS, i64_w, i32_w]
  rfl
 refine pure_ (i := 6) (N := some 21) (v := ?_) (a' := ?_) #[Y,Y,Y,Y,Y,Y,Y,U] rfl rfl (any_of HT_.out (by kernel_rfl)) (fun _ _ _ h => h) (Or.inl ⟨by rfl, ?_⟩) ?_ ?_
 rotate_left
 ·intro w'
  go_simp
  with_reducible rfl
 rotate_left
 ·simp only [Act.put, sA, sZ, sS, i64_w, i32_w]
  rfl
 refine last_ (i := 7) (N := none) #[Y,Y,Y,Y,Y,Y,Y,Y] rfl rfl (one_of HT_.out (by kernel_rfl)) (by decide) (fun K hK => ?_)
 have hs33 := cI BK324.out 1
 have hfs33 := bF BK324.out 1
 have hns33_0 := NB317_324.out
 have hms33_0 := NB324_317.out
 refine skip_ (w1 := ?_) (by rfl) rfl ?_ ?_
 rotate_left
 ·go_simp
  rfl
 refine hK.out _ _ ?_
 clear hK K
 refine done_ (done_of HT_.out (by kernel_rfl)) ?_
 have hcz34_0 := cI BK324.out 0
 have hcz34_1 := cI BK324.out 1
 have hfz34_0 := bF BK324.out 0
 have hfz34_1 := bF BK324.out 1
 have hnb35 := NB317_0.out
 have hnc35 := NB0_317.out
 have hcz36_0 := cI BK317.out 0
 have hcz36_1 := cI BK317.out 1
 have hfz36_0 := bF BK317.out 0
 have hfz36_1 := bF BK317.out 1
 try go_wp2
 refine bodyPost_ret (results_cell_row rfl _ _ gb317 129 #[.int .i64 t318, .slice Ao32 y334.length co32] (0, 0) _ rfl (by (with_reducible repeat (first | refine blk_drewN ?_ _ | refine blk_drew ?_ | refine blk_alloc ?_ _)); refine blk_put (cs := #[.int .i64 t318, .slice none 0 0]) ?_ 1 _ rfl; (with_reducible repeat (first | refine blk_drewN ?_ _ | refine blk_drew ?_ | refine blk_alloc ?_ _)); refine blk_put (cs := #[.int .i64 0, .slice none 0 0]) ?_ 0 _ rfl; (with_reducible repeat (first | refine blk_drewN ?_ _ | refine blk_drew ?_ | refine blk_alloc ?_ _)); refine blk_far ?_ NB317_324.out _; (with_reducible repeat (first | refine blk_drewN ?_ _ | refine blk_drew ?_ | refine blk_alloc ?_ _)); exact BK317.out) Try.underlying129 rfl (by kernel_rfl)) rfl ?_
 exact ⟨_, xW, by (with_reducible repeat (first | apply Kd.R_alloc | apply Kd.R_drewN | apply Kd.R_drew)); exact Kd.R_mono (kF (p := ⟨gb317, 1, none⟩) (kF (p := ⟨gb317, 0, none⟩) (kF (p := ⟨gb324, 1, none⟩) (Kd.R_types (Kd.R_types HO336.out BK324.out (by decide)) BK317.out (by decide)) (fun _ hk => hk.1.2) (.slice Ao32 y334.length co32)) (fun _ hk => hk.2) (.int .i64 t318)) (fun _ hk => hk.2) (.slice Ao32 y334.length co32)) (fun _ hk => trivial), by repeat (first | (with_reducible first | exact HI0.out | apply IsS152.alloc | apply IsS152.drewN | apply IsS152.drew | apply IsS152.set_1 | apply IsS152.set_2 | refine IsS152.far ?_ NB0_317.out _ | refine IsS152.far ?_ NB0_324.out _) | exact HI0.out), by repeat (first | (with_reducible first | exact HB.out | apply below_alloc | apply pw_below_drewN | apply below_drew1 | refine below_set ?_ (IsS152.ge HI0.out) | refine below_set ?_ GE317.out | refine below_set ?_ GE324.out) | exact HB.out), by repeat (first | (with_reducible first | exact HK.out | apply KeepBut.set_ | apply keep_drewN | apply keep_drew | apply keep_alloc | refine keep_far ?_ GW317.out _ | refine keep_far ?_ GW324.out _) | exact HK.out)⟩

end Go.Proofs.Ytjaldondohddpaa.PFnFlushed
