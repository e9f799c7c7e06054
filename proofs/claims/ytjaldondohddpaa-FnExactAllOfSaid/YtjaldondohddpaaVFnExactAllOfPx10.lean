/- Of the proof of laws.FnExactAllOf: a part. No condition beyond what its theorems say. -/
import Derived.Test.YtjaldondohddpaaVFnExactAllOfPx0
import Derived.Test.YtjaldondohddpaaVFnExactAllOfPx9
namespace Go.Proofs.Ytjaldondohddpaa.PFnExactAllOf
open Go.RowKit Go.Proofs.YtjaldondohddpaaW.PrintWords Go.Proofs.YtjaldondohddpaaW.PrintLast Go.Proofs.YtjaldondohddpaaW.PrintMore
attribute [local go_sem] max2_int min2_int max_two min_two max_three min_three max_four min_four   -- for this text's walks alone
set_option linter.unusedVariables false
set_option linter.unusedSimpArgs false

mutual
def impl_InOf.j0 : Nat → List Int → Int → Bool → Option (Int × Int × Int × Int × Int × Int × Int × Bool × Int × Bool)
 | 0, _, _, _ => none
 | k + 1, x0, x1, x17 => if x17 = true then (some (0, 0, 0, 0, 0, 0, 0, false, 0, false)) else ((impl_reader_num.f k x0 x1 false).bind fun bt331 => ((impl_reader_num.f k x0 bt331.2.1 bt331.2.2).bind fun bt335 => (if bt331.1 = 1 then ((impl_reader_num.f k x0 bt335.2.1 bt335.2.2).bind fun bt338 => ((impl_reader_num.f k x0 bt338.2.1 bt338.2.2).bind fun bt341 => ((impl_reader_num.f k x0 bt341.2.1 bt341.2.2).bind fun bt344 => ((impl_reader_num.f k x0 bt344.2.1 bt344.2.2).bind fun bt347 => ((impl_reader_num.f k x0 bt347.2.1 bt347.2.2).bind fun bt350 => (impl_InOf.j1 k x0 x1 x0 bt350.2.1 bt350.2.2 bt331.1 bt335.1 bt338.1 bt341.1 bt344.1 bt347.1 bt350.1 false)))))) else (if bt331.1 = 3 then ((impl_reader_num.f k x0 bt335.2.1 bt335.2.2).bind fun bt353 => (impl_InOf.j1 k x0 x1 x0 bt353.2.1 bt353.2.2 bt331.1 bt335.1 0 0 0 0 0 (bt353.1 == 1))) else (impl_InOf.j1 k x0 x1 x0 bt335.2.1 bt335.2.2 bt331.1 bt335.1 0 0 0 0 0 false)))))
def impl_InOf.j1 : Nat → List Int → Int → List Int → Int → Bool → Int → Int → Int → Int → Int → Int → Int → Bool → Option (Int × Int × Int × Int × Int × Int × Int × Bool × Int × Bool)
 | 0, _, _, _, _, _, _, _, _, _, _, _, _, _ => none
 | k + 1, x0, x1, x331000, x331001, x331002, x335000, x335001, x335002, x335003, x335004, x335005, x335006, x335007 => (impl_InBytes.f k x335000 x335001 x335002 x335003 x335004 x335005 x335006 x335007).bind fun t356 => (if x331002 = true then (some (0, 0, 0, 0, 0, 0, 0, false, 0, false)) else (if (t356.length : Int) = 0 then (some (0, 0, 0, 0, 0, 0, 0, false, 0, false)) else (if 0 ≤ x1 then (if x1 ≤ (x0.length : Int) then ((bytes_HasPrefix.f (x0.drop (x1 : Int).toNat) t356).bind fun t360 => (if t360 = true then (some (x335000, x335001, x335002, x335003, x335004, x335005, x335006, x335007, wrap64 (x1 + (t356.length : Int)), true)) else (some (0, 0, 0, 0, 0, 0, 0, false, 0, false)))) else (none)) else (none))))
end
def impl_InOf.f (k : Nat) (l0 : List Int) (a1 : Int) : Option (Int × Int × Int × Int × Int × Int × Int × Bool × Int × Bool) := if a1 < 0 then (impl_InOf.j0 k l0 a1 true) else (impl_InOf.j0 k l0 a1 (decide (a1 > (l0.length : Int))))
theorem impl_InOf.mono_l : ∀ k, (∀ y0 y1 y2, LeO (impl_InOf.j0 k y0 y1 y2) (impl_InOf.j0 (k + 1) y0 y1 y2)) ∧ (∀ y0 y1 y2 y3 y4 y5 y6 y7 y8 y9 y10 y11 y12, LeO (impl_InOf.j1 k y0 y1 y2 y3 y4 y5 y6 y7 y8 y9 y10 y11 y12) (impl_InOf.j1 (k + 1) y0 y1 y2 y3 y4 y5 y6 y7 y8 y9 y10 y11 y12))
 | 0 => ⟨fun _ _ _ r h => by simp [impl_InOf.j0] at h, fun _ _ _ _ _ _ _ _ _ _ _ _ _ r h => by simp [impl_InOf.j1] at h⟩
 | k + 1 => by
  obtain ⟨ih0, ih1⟩ := impl_InOf.mono_l k
  refine ⟨?_, ?_⟩
  ·intro y0 y1 y2
   unfold impl_InOf.j0
   repeat' first
   | (with_reducible exact ih0 _ _ _)
   | (with_reducible exact ih1 _ _ _ _ _ _ _ _ _ _ _ _ _)
   | (with_reducible exact impl_InBytes.mono _ _ _ _ _ _ _ _ _)
   | (with_reducible exact impl_reader_num.mono _ _ _ _)
   | (with_reducible exact LeO.refl _)
   | (with_reducible exact LeO.none _)
   | (with_reducible refine LeO.ite ?_ ?_)
   | (with_reducible refine LeO.bind ?_ (fun _ => ?_))
   | exact ih0 _ _ _
   | exact ih1 _ _ _ _ _ _ _ _ _ _ _ _ _
   | exact impl_InBytes.mono _ _ _ _ _ _ _ _ _
   | exact impl_reader_num.mono _ _ _ _
   | exact LeO.none _
   | refine LeO.ite ?_ ?_
   | refine LeO.bind ?_ (fun _ => ?_)
  ·intro y0 y1 y2 y3 y4 y5 y6 y7 y8 y9 y10 y11 y12
   unfold impl_InOf.j1
   repeat' first
   | (with_reducible exact ih0 _ _ _)
   | (with_reducible exact ih1 _ _ _ _ _ _ _ _ _ _ _ _ _)
   | (with_reducible exact impl_InBytes.mono _ _ _ _ _ _ _ _ _)
   | (with_reducible exact impl_reader_num.mono _ _ _ _)
   | (with_reducible exact LeO.refl _)
   | (with_reducible exact LeO.none _)
   | (with_reducible refine LeO.ite ?_ ?_)
   | (with_reducible refine LeO.bind ?_ (fun _ => ?_))
   | exact ih0 _ _ _
   | exact ih1 _ _ _ _ _ _ _ _ _ _ _ _ _
   | exact impl_InBytes.mono _ _ _ _ _ _ _ _ _
   | exact impl_reader_num.mono _ _ _ _
   | exact LeO.none _
   | refine LeO.ite ?_ ?_
   | refine LeO.bind ?_ (fun _ => ?_)
theorem impl_InOf.mono : ∀ a0 a1 k, LeO (impl_InOf.f k a0 a1) (impl_InOf.f (k + 1) a0 a1) := by
 intro a0 a1 k
 obtain ⟨ih0, ih1⟩ := impl_InOf.mono_l k
 unfold impl_InOf.f
 repeat' first
   | (with_reducible exact ih0 _ _ _)
   | (with_reducible exact ih1 _ _ _ _ _ _ _ _ _ _ _ _ _)
   | (with_reducible exact impl_InBytes.mono _ _ _ _ _ _ _ _ _)
   | (with_reducible exact impl_reader_num.mono _ _ _ _)
   | (with_reducible exact LeO.refl _)
   | (with_reducible exact LeO.none _)
   | (with_reducible refine LeO.ite ?_ ?_)
   | (with_reducible refine LeO.bind ?_ (fun _ => ?_))
   | exact ih0 _ _ _
   | exact ih1 _ _ _ _ _ _ _ _ _ _ _ _ _
   | exact impl_InBytes.mono _ _ _ _ _ _ _ _ _
   | exact impl_reader_num.mono _ _ _ _
   | exact LeO.none _
   | refine LeO.ite ?_ ?_
   | refine LeO.bind ?_ (fun _ => ?_)
set_option maxHeartbeats 60000000 in
set_option maxRecDepth 100000 in
theorem impl_InOf.calls (k : Nat) (A0 : Option Addr) (c0 : Nat) (l0 : List Int) (a1 : Int) (r1 : Int) (r2 : Int) (r3 : Int) (r4 : Int) (r5 : Int) (r6 : Int) (r7 : Int) (r8 : Bool) (r9 : Int) (r10 : Bool) (w : World) (hr0 : Kd.C (Kd.int .u8) w A0 l0.length l0) (hc0 : l0.length ≤ c0) (h : impl_InOf.f k l0 a1 = some (r1, r2, r3, r4, r5, r6, r7, r8, r9, r10)) :
  Calls Try.prog 60 #[.slice A0 l0.length c0, .int .i64 a1] w fun e w' => e = .returned (.tuple #[.agg #[.int .i64 r1, .int .i64 r2, .int .i64 r3, .int .i64 r4, .int .i64 r5, .int .i64 r6, .int .i64 r7, .bool r8], .int .i64 r9, .bool r10]) ∧ Below w.heap.size w w' := by
 have hu82 := Try.underlying82
 have hu142 := Try.underlying142
 have HR0 := aM hr0
 have HC0 := aM hc0
 clear hr0 hc0
 have HB := aM (Below.refl w.heap.size w)
 have H : (if a1 < 0 then (impl_InOf.j0 k l0 a1 true) else (impl_InOf.j0 k l0 a1 (decide (a1 > (l0.length : Int))))) = some (r1, r2, r3, r4, r5, r6, r7, r8, r9, r10) := h
 clear h
 have HC3 := aM H
 clear H
 go_enter Try.func60, Try.ntmps60
 go_upto_region 1 with (first | ((with_reducible refine gate_dst (N := 4) rfl ?_); (try (refine gate_guard (by rfl) ?_; dsimp only)); refine box_event ?hg (N := 4) ?hd (cs := #[.int .i64 0, .int .i64 0, .int .i64 0, .int .i64 0, .int .i64 0, .int .i64 0, .int .i64 0, .bool false]) (t := 82) ?hr ?_; (case hd => rfl); (case hg => rfl); (case hr => first | (go_simp; done) | (go_simp; rfl)); intro gb329 hg w4 hbox hb; have n0_ := aM (bS (bl HB.out) hb); have n1_ := aM (hbox); have n2_ := aM ((by rw [hg]; exact (below_size (bl HB.out)) : w.heap.size ≤ gb329)); have n3_ := aM ((by rw [hg]; exact (below_size (bl HB.out)) : w.heap.size ≤ gb329)); clear HB; have HB := n0_; have BK329 := n1_; have GW329 := n2_; have GE329 := n3_; clear n0_ n1_ n2_ n3_; clear hb hbox hg))
 (try simp only [Act.put, sA, sZ, sS])
 go_cut [17] (fun v17 wc => ∃ (kq : Nat) (x17_2 : Bool), v17 = .bool x17_2 ∧ Aside0 (impl_InOf.j0 kq l0 a1 x17_2 = some (r1, r2, r3, r4, r5, r6, r7, r8, r9, r10)) ∧ Aside0 (kq ≤ k) ∧ Aside0 (wc.heap[gb329]? = some (.cells #[.int .i64 0, .int .i64 0, .int .i64 0, .int .i64 0, .int .i64 0, .int .i64 0, .int .i64 0, .bool false] 82 (0, 0))) ∧ Aside0 (Below w.heap.size w wc))
 case first =>
  have H := HC3.out
  clear HC3
  by_cases c5 : a1 < 0
  case pos =>
   rw [if_pos c5] at H
   have c5b0 : decide (a1 < 0) = true := decide_eq_true c5
   clear c5
   (first | rw [c5b0] | (simp only [i64_w, i32_w]; rw [c5b0]) | skip)
   have H' := aM H
   clear H
   go_wp2
   go_meet
   case rel => exact ⟨_, (true), xE, H', ⟨by first | omega | exact Nat.le_refl _⟩, ⟨by (with_reducible repeat (first | refine blk_drewN ?_ _ | refine blk_drew ?_ | refine blk_alloc ?_ _)); exact BK329.out⟩, ⟨bl HB.out⟩⟩
  rw [if_neg c5] at H
  have c5b0 : decide (a1 < 0) = false := decide_eq_false c5
  clear c5
  (first | rw [c5b0] | (simp only [i64_w, i32_w]; rw [c5b0]) | skip)
  have H' := aM H
  clear H
  go_wp2
  go_meet
  case rel => exact ⟨_, (decide (a1 > (l0.length : Int))), xE, H', ⟨by first | omega | exact Nat.le_refl _⟩, ⟨by (with_reducible repeat (first | refine blk_drewN ?_ _ | refine blk_drew ?_ | refine blk_alloc ?_ _)); exact BK329.out⟩, ⟨bl HB.out⟩⟩
 case rest =>
  clear HC3
  try clear p2
  try clear c5
  try clear c5b0
  obtain ⟨kq, x17_2, rfl, HA, HJ2, BK329, HB⟩ := hcut
  cases kq with
  | zero => exact absurd HA.out (by simp [impl_InOf.j0])
  | succ kj2 =>
   have H := HA.out
   clear HA
   simp only [impl_InOf.j0] at H
   by_cases c6 : x17_2 = true
   case pos =>
    subst c6
    have H1 : (some (0, 0, 0, 0, 0, 0, 0, false, 0, false)) = some (r1, r2, r3, r4, r5, r6, r7, r8, r9, r10) := by rw [if_pos rfl] at H; exact H
    clear H
    have H := H1
    clear H1
    simp only [Option.some.injEq, Prod.mk.injEq] at H
    obtain ⟨rfl, rfl, rfl, rfl, rfl, rfl, rfl, rfl, rfl, rfl⟩ := H
    have hcz7_0 := cI BK329.out 0
    have hcz7_1 := cI BK329.out 1
    have hcz7_2 := cI BK329.out 2
    have hcz7_3 := cI BK329.out 3
    have hcz7_4 := cI BK329.out 4
    have hcz7_5 := cI BK329.out 5
    have hcz7_6 := cI BK329.out 6
    have hcz7_7 := cI BK329.out 7
    have hfz7_0 := bF BK329.out 0
    have hfz7_1 := bF BK329.out 1
    have hfz7_2 := bF BK329.out 2
    have hfz7_3 := bF BK329.out 3
    have hfz7_4 := bF BK329.out 4
    have hfz7_5 := bF BK329.out 5
    have hfz7_6 := bF BK329.out 6
    have hfz7_7 := bF BK329.out 7
    go_wp2
    refine bodyPost_ret (results_ctt rfl _ _ gb329 82 #[.int .i64 0, .int .i64 0, .int .i64 0, .int .i64 0, .int .i64 0, .int .i64 0, .int .i64 0, .bool false] (0, 0) _ rfl (by (with_reducible repeat (first | refine blk_drewN ?_ _ | refine blk_drew ?_ | refine blk_alloc ?_ _)); refine blk_put (cs := #[.int .i64 0, .int .i64 0, .int .i64 0, .int .i64 0, .int .i64 0, .int .i64 0, .int .i64 0, .bool false]) ?_ 7 _ rfl; (with_reducible repeat (first | refine blk_drewN ?_ _ | refine blk_drew ?_ | refine blk_alloc ?_ _)); refine blk_put (cs := #[.int .i64 0, .int .i64 0, .int .i64 0, .int .i64 0, .int .i64 0, .int .i64 0, .int .i64 0, .bool false]) ?_ 6 _ rfl; (with_reducible repeat (first | refine blk_drewN ?_ _ | refine blk_drew ?_ | refine blk_alloc ?_ _)); refine blk_put (cs := #[.int .i64 0, .int .i64 0, .int .i64 0, .int .i64 0, .int .i64 0, .int .i64 0, .int .i64 0, .bool false]) ?_ 5 _ rfl; (with_reducible repeat (first | refine blk_drewN ?_ _ | refine blk_drew ?_ | refine blk_alloc ?_ _)); refine blk_put (cs := #[.int .i64 0, .int .i64 0, .int .i64 0, .int .i64 0, .int .i64 0, .int .i64 0, .int .i64 0, .bool false]) ?_ 4 _ rfl; (with_reducible repeat (first | refine blk_drewN ?_ _ | refine blk_drew ?_ | refine blk_alloc ?_ _)); refine blk_put (cs := #[.int .i64 0, .int .i64 0, .int .i64 0, .int .i64 0, .int .i64 0, .int .i64 0, .int .i64 0, .bool false]) ?_ 3 _ rfl; (with_reducible repeat (first | refine blk_drewN ?_ _ | refine blk_drew ?_ | refine blk_alloc ?_ _)); refine blk_put (cs := #[.int .i64 0, .int .i64 0, .int .i64 0, .int .i64 0, .int .i64 0, .int .i64 0, .int .i64 0, .bool false]) ?_ 2 _ rfl; (with_reducible repeat (first | refine blk_drewN ?_ _ | refine blk_drew ?_ | refine blk_alloc ?_ _)); refine blk_put (cs := #[.int .i64 0, .int .i64 0, .int .i64 0, .int .i64 0, .int .i64 0, .int .i64 0, .int .i64 0, .bool false]) ?_ 1 _ rfl; (with_reducible repeat (first | refine blk_drewN ?_ _ | refine blk_drew ?_ | refine blk_alloc ?_ _)); refine blk_put (cs := #[.int .i64 0, .int .i64 0, .int .i64 0, .int .i64 0, .int .i64 0, .int .i64 0, .int .i64 0, .bool false]) ?_ 0 _ rfl; (with_reducible repeat (first | refine blk_drewN ?_ _ | refine blk_drew ?_ | refine blk_alloc ?_ _)); exact BK329.out) Try.underlying82 rfl (by kernel_rfl)) rfl ?_
    exact ⟨xW, bl HB.out⟩
   replace c6 := Bool.eq_false_iff.mpr c6
   subst c6
   have H1 : ((impl_reader_num.f kj2 l0 a1 false).bind fun bt331 => ((impl_reader_num.f kj2 l0 bt331.2.1 bt331.2.2).bind fun bt335 => (if bt331.1 = 1 then ((impl_reader_num.f kj2 l0 bt335.2.1 bt335.2.2).bind fun bt338 => ((impl_reader_num.f kj2 l0 bt338.2.1 bt338.2.2).bind fun bt341 => ((impl_reader_num.f kj2 l0 bt341.2.1 bt341.2.2).bind fun bt344 => ((impl_reader_num.f kj2 l0 bt344.2.1 bt344.2.2).bind fun bt347 => ((impl_reader_num.f kj2 l0 bt347.2.1 bt347.2.2).bind fun bt350 => (impl_InOf.j1 kj2 l0 a1 l0 bt350.2.1 bt350.2.2 bt331.1 bt335.1 bt338.1 bt341.1 bt344.1 bt347.1 bt350.1 false)))))) else (if bt331.1 = 3 then ((impl_reader_num.f kj2 l0 bt335.2.1 bt335.2.2).bind fun bt353 => (impl_InOf.j1 kj2 l0 a1 l0 bt353.2.1 bt353.2.2 bt331.1 bt335.1 0 0 0 0 0 (bt353.1 == 1))) else (impl_InOf.j1 kj2 l0 a1 l0 bt335.2.1 bt335.2.2 bt331.1 bt335.1 0 0 0 0 0 false))))) = some (r1, r2, r3, r4, r5, r6, r7, r8, r9, r10) := by rw [if_neg (show ¬ (false = true) by decide)] at H; exact H
   clear H
   have H := H1
   clear H1
   replace H := Option.bind_eq_some_iff.mp H
   obtain ⟨⟨t331, t332, t333⟩, A80, H⟩ := H
   replace H : ((impl_reader_num.f kj2 l0 t332 t333).bind fun bt335 => (if t331 = 1 then ((impl_reader_num.f kj2 l0 bt335.2.1 bt335.2.2).bind fun bt338 => ((impl_reader_num.f kj2 l0 bt338.2.1 bt338.2.2).bind fun bt341 => ((impl_reader_num.f kj2 l0 bt341.2.1 bt341.2.2).bind fun bt344 => ((impl_reader_num.f kj2 l0 bt344.2.1 bt344.2.2).bind fun bt347 => ((impl_reader_num.f kj2 l0 bt347.2.1 bt347.2.2).bind fun bt350 => (impl_InOf.j1 kj2 l0 a1 l0 bt350.2.1 bt350.2.2 t331 bt335.1 bt338.1 bt341.1 bt344.1 bt347.1 bt350.1 false)))))) else (if t331 = 3 then ((impl_reader_num.f kj2 l0 bt335.2.1 bt335.2.2).bind fun bt353 => (impl_InOf.j1 kj2 l0 a1 l0 bt353.2.1 bt353.2.2 t331 bt335.1 0 0 0 0 0 (bt353.1 == 1))) else (impl_InOf.j1 kj2 l0 a1 l0 bt335.2.1 bt335.2.2 t331 bt335.1 0 0 0 0 0 false)))) = some (r1, r2, r3, r4, r5, r6, r7, r8, r9, r10) := H
   have A8 := aM A80
   clear A80
   replace H := Option.bind_eq_some_iff.mp H
   obtain ⟨⟨t335, t336, t337⟩, A90, H⟩ := H
   replace H : (if t331 = 1 then ((impl_reader_num.f kj2 l0 t336 t337).bind fun bt338 => ((impl_reader_num.f kj2 l0 bt338.2.1 bt338.2.2).bind fun bt341 => ((impl_reader_num.f kj2 l0 bt341.2.1 bt341.2.2).bind fun bt344 => ((impl_reader_num.f kj2 l0 bt344.2.1 bt344.2.2).bind fun bt347 => ((impl_reader_num.f kj2 l0 bt347.2.1 bt347.2.2).bind fun bt350 => (impl_InOf.j1 kj2 l0 a1 l0 bt350.2.1 bt350.2.2 t331 t335 bt338.1 bt341.1 bt344.1 bt347.1 bt350.1 false)))))) else (if t331 = 3 then ((impl_reader_num.f kj2 l0 t336 t337).bind fun bt353 => (impl_InOf.j1 kj2 l0 a1 l0 bt353.2.1 bt353.2.2 t331 t335 0 0 0 0 0 (bt353.1 == 1))) else (impl_InOf.j1 kj2 l0 a1 l0 t336 t337 t331 t335 0 0 0 0 0 false))) = some (r1, r2, r3, r4, r5, r6, r7, r8, r9, r10) := H
   have A9 := aM A90
   clear A90
   have HC10 := aM H
   clear H
   go_upto_block 0 with (first | ((with_reducible refine gate_dst (N := 7) rfl ?_); (try (refine gate_guard (by rfl) ?_; dsimp only)); refine box_event ?hg (N := 7) ?hd (cs := #[.slice none 0 0, .int .i64 0, .bool false]) (t := 142) ?hr ?_; (case hd => rfl); (case hg => rfl); (case hr => first | (go_simp; done) | (go_simp; rfl)); intro gb330 hg w11 hbox hb; have n0_ := aM (bB (g := gb329) (o := .cells #[.int .i64 0, .int .i64 0, .int .i64 0, .int .i64 0, .int .i64 0, .int .i64 0, .int .i64 0, .bool false] 82 (0, 0)) (bk BK329.out) hb); have n1_ := aM (bS (bl HB.out) hb); have n2_ := aM ((by rw [hg]; exact Nat.ne_of_lt (blk_lt (g := gb329) (o := .cells #[.int .i64 0, .int .i64 0, .int .i64 0, .int .i64 0, .int .i64 0, .int .i64 0, .int .i64 0, .bool false] 82 (0, 0)) (bk BK329.out)) : gb329 ≠ gb330)); have n3_ := aM ((by rw [hg]; exact Nat.ne_of_gt (blk_lt (g := gb329) (o := .cells #[.int .i64 0, .int .i64 0, .int .i64 0, .int .i64 0, .int .i64 0, .int .i64 0, .int .i64 0, .bool false] 82 (0, 0)) (bk BK329.out)) : gb330 ≠ gb329)); have n4_ := aM ((show IsS142 w w11 gb330 ([] : List Int) 0 false from ⟨_, _, hbox, (by rw [hg]; exact (below_size (bl HB.out)) : w.heap.size ≤ gb330), ⟨Kd.C_nil _ _, Nat.le_refl _⟩⟩)); clear BK329 HB; have BK329 := n0_; have HB := n1_; have NB329_330 := n2_; have NB330_329 := n3_; have HI330 := n4_; clear n0_ n1_ n2_ n3_ n4_; clear hb hbox hg; obtain ⟨ASz12_0, cSz12_0, HGz12, hgz12, HSz12_0⟩ := HI330.out; have hcz12_0 := cellS142_0 HGz12; have hcz12_1 := cellS142_1 HGz12; have hcz12_2 := cellS142_2 HGz12; have hfz12_0 := bF HGz12 0; have hfz12_1 := bF HGz12 1; have hfz12_2 := bF HGz12 2; clear HGz12 hgz12) | ((with_reducible refine gate_callee (f := 115) rfl ?_); refine goesL_ (some 22) rfl rfl Try.func115 (by kernel_rfl) rfl #[.pointer (some ⟨gb330, 0, none⟩)] rfl xR ?_; (with_reducible refine (impl_reader_num.calls kj2 gb330 l0 a1 false t331 t332 t333 w _ ?side1 ?side2 A8.out).mono ?_); (case side1 => repeat (first | (with_reducible first | exact HI330.out | apply IsS142.alloc | apply IsS142.drewN | apply IsS142.drew | apply IsS142.set_1 | apply IsS142.set_2 | apply IsS142.put_0 (hx_ := ⟨HR0.out, HC0.out⟩) | refine IsS142.far ?_ NB330_329.out _) | exact HI330.out)); (case side2 => repeat (first | (with_reducible first | exact HB.out | apply below_alloc | apply pw_below_drewN | apply below_drew1 | refine below_set ?_ (IsS142.ge HI330.out) | refine below_set ?_ GE329.out) | exact HB.out)); rintro e w13 ⟨rfl, hi, hb, hk⟩; refine ⟨_, rfl, ?_⟩; have n0_ := aM (KeepBut.blk hk (g' := gb329) (o := .cells #[.int .i64 0, .int .i64 0, .int .i64 0, .int .i64 0, .int .i64 0, .int .i64 0, .int .i64 0, .bool false] 82 (0, 0)) (by (with_reducible repeat (first | refine blk_drewN ?_ _ | refine blk_drew ?_ | refine blk_alloc ?_ _)); refine blk_far ?_ NB329_330.out _; (with_reducible repeat (first | refine blk_drewN ?_ _ | refine blk_drew ?_ | refine blk_alloc ?_ _)); refine blk_far ?_ NB329_330.out _; (with_reducible repeat (first | refine blk_drewN ?_ _ | refine blk_drew ?_ | refine blk_alloc ?_ _)); refine blk_far ?_ NB329_330.out _; (with_reducible repeat (first | refine blk_drewN ?_ _ | refine blk_drew ?_ | refine blk_alloc ?_ _)); exact BK329.out) NB329_330.out (by simp)); have n1_ := aM (hb); have n2_ := aM (hi); clear BK329 HB HI330; have BK329 := n0_; have HB := n1_; have HI330 := n2_; clear n0_ n1_ n2_; (try clear hb); (try clear hk); (try clear hi)) | ((with_reducible refine gate_dst (N := 8) rfl ?_); (try (refine gate_guard (by rfl) ?_; dsimp only)); refine box_event ?hg (N := 8) ?hd (cs := #[.int .i64 0, .int .i64 0, .int .i64 0, .int .i64 0, .int .i64 0, .int .i64 0, .int .i64 0, .bool false]) (t := 82) ?hr ?_; (case hd => rfl); (case hg => rfl); (case hr => first | (go_simp; done) | (go_simp; rfl)); intro gb334 hg w14 hbox hb; have n0_ := aM (bB (g := gb329) (o := .cells #[.int .i64 0, .int .i64 0, .int .i64 0, .int .i64 0, .int .i64 0, .int .i64 0, .int .i64 0, .bool false] 82 (0, 0)) (bk BK329.out) hb); have n1_ := aM (IsS142.below (by repeat (first | (with_reducible first | exact HI330.out | apply IsS142.alloc | apply IsS142.drewN | apply IsS142.drew | apply IsS142.set_1 | apply IsS142.set_2 | apply IsS142.put_0 (hx_ := ⟨HR0.out, HC0.out⟩) | refine IsS142.far ?_ NB330_329.out _) | exact HI330.out)) hb); have n2_ := aM (bS (by repeat (first | (with_reducible first | exact HB.out | apply below_alloc | apply pw_below_drewN | apply below_drew1 | refine below_set ?_ (IsS142.ge HI330.out) | refine below_set ?_ GE329.out) | exact HB.out)) hb); have n3_ := aM (hbox); have n4_ := aM ((by rw [hg]; exact (below_size (by repeat (first | (with_reducible first | exact HB.out | apply below_alloc | apply pw_below_drewN | apply below_drew1 | refine below_set ?_ (IsS142.ge HI330.out) | refine below_set ?_ GE329.out) | exact HB.out))) : w.heap.size ≤ gb334)); have n5_ := aM ((by rw [hg]; exact (below_size (by repeat (first | (with_reducible first | exact HB.out | apply below_alloc | apply pw_below_drewN | apply below_drew1 | refine below_set ?_ (IsS142.ge HI330.out) | refine below_set ?_ GE329.out) | exact HB.out))) : w.heap.size ≤ gb334)); have n6_ := aM ((by rw [hg]; exact Nat.ne_of_lt (blk_lt (g := gb329) (o := .cells #[.int .i64 0, .int .i64 0, .int .i64 0, .int .i64 0, .int .i64 0, .int .i64 0, .int .i64 0, .bool false] 82 (0, 0)) (bk BK329.out)) : gb329 ≠ gb334)); have n7_ := aM ((by rw [hg]; exact Nat.ne_of_gt (blk_lt (g := gb329) (o := .cells #[.int .i64 0, .int .i64 0, .int .i64 0, .int .i64 0, .int .i64 0, .int .i64 0, .int .i64 0, .bool false] 82 (0, 0)) (bk BK329.out)) : gb334 ≠ gb329)); have n8_ := aM ((by rw [hg]; exact Nat.ne_of_lt (IsS142.lt (show IsS142 w _ gb330 l0 t332 t333 from by repeat (first | (with_reducible first | exact HI330.out | apply IsS142.alloc | apply IsS142.drewN | apply IsS142.drew | apply IsS142.set_1 | apply IsS142.set_2 | apply IsS142.put_0 (hx_ := ⟨HR0.out, HC0.out⟩) | refine IsS142.far ?_ NB330_329.out _) | exact HI330.out))) : gb330 ≠ gb334)); have n9_ := aM ((by rw [hg]; exact Nat.ne_of_gt (IsS142.lt (show IsS142 w _ gb330 l0 t332 t333 from by repeat (first | (with_reducible first | exact HI330.out | apply IsS142.alloc | apply IsS142.drewN | apply IsS142.drew | apply IsS142.set_1 | apply IsS142.set_2 | apply IsS142.put_0 (hx_ := ⟨HR0.out, HC0.out⟩) | refine IsS142.far ?_ NB330_329.out _) | exact HI330.out))) : gb334 ≠ gb330)); clear BK329 HI330 HB; have BK329 := n0_; have HI330 := n1_; have HB := n2_; have BK334 := n3_; have GW334 := n4_; have GE334 := n5_; have NB329_334 := n6_; have NB334_329 := n7_; have NB330_334 := n8_; have NB334_330 := n9_; clear n0_ n1_ n2_ n3_ n4_ n5_ n6_ n7_ n8_ n9_; clear hb hbox hg; have hnb15 := NB334_329.out; have hnc15 := NB329_334.out; have hnb16 := NB334_330.out; have hnc16 := NB330_334.out; have hcz17_0 := cI BK334.out 0; have hcz17_1 := cI BK334.out 1; have hcz17_2 := cI BK334.out 2; have hcz17_3 := cI BK334.out 3; have hcz17_4 := cI BK334.out 4; have hcz17_5 := cI BK334.out 5; have hcz17_6 := cI BK334.out 6; have hcz17_7 := cI BK334.out 7; have hfz17_0 := bF BK334.out 0; have hfz17_1 := bF BK334.out 1; have hfz17_2 := bF BK334.out 2; have hfz17_3 := bF BK334.out 3; have hfz17_4 := bF BK334.out 4; have hfz17_5 := bF BK334.out 5; have hfz17_6 := bF BK334.out 6; have hfz17_7 := bF BK334.out 7) | ((with_reducible refine gate_callee (f := 115) rfl ?_); refine goesL_ (some 24) rfl rfl Try.func115 (by kernel_rfl) rfl #[.pointer (some ⟨gb330, 0, none⟩)] rfl xR ?_; (with_reducible refine (impl_reader_num.calls kj2 gb330 l0 t332 t333 t335 t336 t337 w _ ?side1 ?side2 A9.out).mono ?_); (case side1 => repeat (first | (with_reducible first | exact HI330.out | apply IsS142.alloc | apply IsS142.drewN | apply IsS142.drew | apply IsS142.set_1 | apply IsS142.set_2 | apply IsS142.put_0 (hx_ := ⟨HR0.out, HC0.out⟩) | refine IsS142.far ?_ NB330_329.out _ | refine IsS142.far ?_ NB330_334.out _) | exact HI330.out)); (case side2 => repeat (first | (with_reducible first | exact HB.out | apply below_alloc | apply pw_below_drewN | apply below_drew1 | refine below_set ?_ (IsS142.ge HI330.out) | refine below_set ?_ GE329.out | refine below_set ?_ GE334.out) | exact HB.out)); rintro e w18 ⟨rfl, hi, hb, hk⟩; refine ⟨_, rfl, ?_⟩; have n0_ := aM (KeepBut.blk hk (g' := gb329) (o := .cells #[.int .i64 0, .int .i64 0, .int .i64 0, .int .i64 0, .int .i64 0, .int .i64 0, .int .i64 0, .bool false] 82 (0, 0)) (by (with_reducible repeat (first | refine blk_drewN ?_ _ | refine blk_drew ?_ | refine blk_alloc ?_ _)); refine blk_far ?_ NB329_334.out _; (with_reducible repeat (first | refine blk_drewN ?_ _ | refine blk_drew ?_ | refine blk_alloc ?_ _)); refine blk_far ?_ NB329_334.out _; (with_reducible repeat (first | refine blk_drewN ?_ _ | refine blk_drew ?_ | refine blk_alloc ?_ _)); refine blk_far ?_ NB329_334.out _; (with_reducible repeat (first | refine blk_drewN ?_ _ | refine blk_drew ?_ | refine blk_alloc ?_ _)); refine blk_far ?_ NB329_334.out _; (with_reducible repeat (first | refine blk_drewN ?_ _ | refine blk_drew ?_ | refine blk_alloc ?_ _)); refine blk_far ?_ NB329_334.out _; (with_reducible repeat (first | refine blk_drewN ?_ _ | refine blk_drew ?_ | refine blk_alloc ?_ _)); refine blk_far ?_ NB329_334.out _; (with_reducible repeat (first | refine blk_drewN ?_ _ | refine blk_drew ?_ | refine blk_alloc ?_ _)); refine blk_far ?_ NB329_334.out _; (with_reducible repeat (first | refine blk_drewN ?_ _ | refine blk_drew ?_ | refine blk_alloc ?_ _)); refine blk_far ?_ NB329_334.out _; (with_reducible repeat (first | refine blk_drewN ?_ _ | refine blk_drew ?_ | refine blk_alloc ?_ _)); exact BK329.out) NB329_330.out (by simp)); have n1_ := aM (KeepBut.blk hk (g' := gb334) (o := .cells #[.int .i64 t331, .int .i64 0, .int .i64 0, .int .i64 0, .int .i64 0, .int .i64 0, .int .i64 0, .bool false] 82 (0, 0)) (by (with_reducible repeat (first | refine blk_drewN ?_ _ | refine blk_drew ?_ | refine blk_alloc ?_ _)); refine blk_put (cs := #[.int .i64 t331, .int .i64 0, .int .i64 0, .int .i64 0, .int .i64 0, .int .i64 0, .int .i64 0, .bool false]) ?_ 7 _ rfl; (with_reducible repeat (first | refine blk_drewN ?_ _ | refine blk_drew ?_ | refine blk_alloc ?_ _)); refine blk_put (cs := #[.int .i64 t331, .int .i64 0, .int .i64 0, .int .i64 0, .int .i64 0, .int .i64 0, .int .i64 0, .bool false]) ?_ 6 _ rfl; (with_reducible repeat (first | refine blk_drewN ?_ _ | refine blk_drew ?_ | refine blk_alloc ?_ _)); refine blk_put (cs := #[.int .i64 t331, .int .i64 0, .int .i64 0, .int .i64 0, .int .i64 0, .int .i64 0, .int .i64 0, .bool false]) ?_ 5 _ rfl; (with_reducible repeat (first | refine blk_drewN ?_ _ | refine blk_drew ?_ | refine blk_alloc ?_ _)); refine blk_put (cs := #[.int .i64 t331, .int .i64 0, .int .i64 0, .int .i64 0, .int .i64 0, .int .i64 0, .int .i64 0, .bool false]) ?_ 4 _ rfl; (with_reducible repeat (first | refine blk_drewN ?_ _ | refine blk_drew ?_ | refine blk_alloc ?_ _)); refine blk_put (cs := #[.int .i64 t331, .int .i64 0, .int .i64 0, .int .i64 0, .int .i64 0, .int .i64 0, .int .i64 0, .bool false]) ?_ 3 _ rfl; (with_reducible repeat (first | refine blk_drewN ?_ _ | refine blk_drew ?_ | refine blk_alloc ?_ _)); refine blk_put (cs := #[.int .i64 t331, .int .i64 0, .int .i64 0, .int .i64 0, .int .i64 0, .int .i64 0, .int .i64 0, .bool false]) ?_ 2 _ rfl; (with_reducible repeat (first | refine blk_drewN ?_ _ | refine blk_drew ?_ | refine blk_alloc ?_ _)); refine blk_put (cs := #[.int .i64 t331, .int .i64 0, .int .i64 0, .int .i64 0, .int .i64 0, .int .i64 0, .int .i64 0, .bool false]) ?_ 1 _ rfl; (with_reducible repeat (first | refine blk_drewN ?_ _ | refine blk_drew ?_ | refine blk_alloc ?_ _)); refine blk_put (cs := #[.int .i64 0, .int .i64 0, .int .i64 0, .int .i64 0, .int .i64 0, .int .i64 0, .int .i64 0, .bool false]) ?_ 0 _ rfl; (with_reducible repeat (first | refine blk_drewN ?_ _ | refine blk_drew ?_ | refine blk_alloc ?_ _)); exact BK334.out) NB334_330.out (by simp)); have n2_ := aM (hb); have n3_ := aM (hi); clear BK329 BK334; clear HB HI330; have BK329 := n0_; have BK334 := n1_; have HB := n2_; have HI330 := n3_; clear n0_ n1_ n2_ n3_; (try clear hb); (try clear hk); (try clear hi); have hcz19_0 := cI BK334.out 0; have hcz19_1 := cI BK334.out 1; have hcz19_2 := cI BK334.out 2; have hcz19_3 := cI BK334.out 3; have hcz19_4 := cI BK334.out 4; have hcz19_5 := cI BK334.out 5; have hcz19_6 := cI BK334.out 6; have hcz19_7 := cI BK334.out 7; have hfz19_0 := bF BK334.out 0; have hfz19_1 := bF BK334.out 1; have hfz19_2 := bF BK334.out 2; have hfz19_3 := bF BK334.out 3; have hfz19_4 := bF BK334.out 4; have hfz19_5 := bF BK334.out 5; have hfz19_6 := bF BK334.out 6; have hfz19_7 := bF BK334.out 7))
   (try simp only [Act.put, sA, sZ, sS])
   go_cut [] (fun wc => ∃ (kq : Nat) (t336 : Int) (t337 : Bool) (x335002_9 : Int) (x335003_9 : Int) (x335004_9 : Int) (x335005_9 : Int) (x335006_9 : Int) (x335007_9 : Bool), Aside0 (impl_InOf.j1 kq l0 a1 l0 t336 t337 t331 t335 x335002_9 x335003_9 x335004_9 x335005_9 x335006_9 x335007_9 = some (r1, r2, r3, r4, r5, r6, r7, r8, r9, r10)) ∧ Aside0 (kq ≤ kj2) ∧ Aside0 (wc.heap[gb329]? = some (.cells #[.int .i64 0, .int .i64 0, .int .i64 0, .int .i64 0, .int .i64 0, .int .i64 0, .int .i64 0, .bool false] 82 (0, 0))) ∧ Aside0 (wc.heap[gb334]? = some (.cells #[.int .i64 t331, .int .i64 t335, .int .i64 x335002_9, .int .i64 x335003_9, .int .i64 x335004_9, .int .i64 x335005_9, .int .i64 x335006_9, .bool x335007_9] 82 (0, 0))) ∧ Aside0 (IsS142 w wc gb330 l0 t336 t337) ∧ Aside0 (Below w.heap.size w wc))
   case first =>
    have H := HC10.out
    clear HC10
    by_cases c20 : t331 = 1
    case neg =>
     rw [if_neg c20] at H
     have c20b0 : (t331 == 1) = false := beq_eq_false_iff_ne.mpr c20
     have c20b1 : (t331 != 1) = true := bne_iff_ne.mpr c20
     (first | rw [c20b0] | (simp only [i64_w, i32_w]; rw [c20b0]) | skip)
     by_cases c38 : t331 = 3
     case neg =>
      rw [if_neg c38] at H
      have c38b0 : (t331 == 3) = false := beq_eq_false_iff_ne.mpr c38
      have c38b1 : (t331 != 3) = true := bne_iff_ne.mpr c38
      have H' := aM H
      clear H
      go_wp2
      go_meet
      case rel => exact ⟨_, _, _, (0), (0), (0), (0), (0), (false), H', ⟨by have := HJ2.out; first | omega | exact Nat.le_refl _⟩, ⟨by (with_reducible repeat (first | refine blk_drewN ?_ _ | refine blk_drew ?_ | refine blk_alloc ?_ _)); refine blk_far ?_ NB329_334.out _; (with_reducible repeat (first | refine blk_drewN ?_ _ | refine blk_drew ?_ | refine blk_alloc ?_ _)); exact BK329.out⟩, ⟨by (with_reducible repeat (first | refine blk_drewN ?_ _ | refine blk_drew ?_ | refine blk_alloc ?_ _)); refine blk_put (cs := #[.int .i64 t331, .int .i64 0, .int .i64 0, .int .i64 0, .int .i64 0, .int .i64 0, .int .i64 0, .bool false]) ?_ 1 _ rfl; (with_reducible repeat (first | refine blk_drewN ?_ _ | refine blk_drew ?_ | refine blk_alloc ?_ _)); exact BK334.out⟩, ⟨by repeat (first | (with_reducible first | exact HI330.out | apply IsS142.alloc | apply IsS142.drewN | apply IsS142.drew | apply IsS142.set_1 | apply IsS142.set_2 | apply IsS142.put_0 (hx_ := ⟨HR0.out, HC0.out⟩) | refine IsS142.far ?_ NB330_329.out _ | refine IsS142.far ?_ NB330_334.out _) | exact HI330.out)⟩, ⟨by repeat (first | (with_reducible first | exact HB.out | apply below_alloc | apply pw_below_drewN | apply below_drew1 | refine below_set ?_ (IsS142.ge HI330.out) | refine below_set ?_ GE329.out | refine below_set ?_ GE334.out) | exact HB.out)⟩⟩
     rw [if_pos c38] at H
     have c38b0 : (t331 == 3) = true := beq_iff_eq.mpr c38
     have c38b1 : (t331 != 3) = false := bne_eq_false_iff_eq.mpr c38
     clear c38
     replace H := Option.bind_eq_some_iff.mp H
     obtain ⟨⟨t353, t354, t355⟩, A390, H⟩ := H
     replace H : (impl_InOf.j1 kj2 l0 a1 l0 t354 t355 t331 t335 0 0 0 0 0 (t353 == 1)) = some (r1, r2, r3, r4, r5, r6, r7, r8, r9, r10) := H
     have A39 := aM A390
     clear A390
     have H' := aM H
     clear H
     go_wp2_with (first | ((with_reducible refine gate_callee (f := 115) rfl ?_); refine goesL_ (some 46) rfl rfl Try.func115 (by kernel_rfl) rfl #[.pointer (some ⟨gb330, 0, none⟩)] rfl xR ?_; (with_reducible refine (impl_reader_num.calls kj2 gb330 l0 t336 t337 t353 t354 t355 w _ ?side1 ?side2 A39.out).mono ?_); (case side1 => repeat (first | (with_reducible first | exact HI330.out | apply IsS142.alloc | apply IsS142.drewN | apply IsS142.drew | apply IsS142.set_1 | apply IsS142.set_2 | apply IsS142.put_0 (hx_ := ⟨HR0.out, HC0.out⟩) | refine IsS142.far ?_ NB330_329.out _ | refine IsS142.far ?_ NB330_334.out _) | exact HI330.out)); (case side2 => repeat (first | (with_reducible first | exact HB.out | apply below_alloc | apply pw_below_drewN | apply below_drew1 | refine below_set ?_ (IsS142.ge HI330.out) | refine below_set ?_ GE329.out | refine below_set ?_ GE334.out) | exact HB.out)); rintro e w40 ⟨rfl, hi, hb, hk⟩; refine ⟨_, rfl, ?_⟩; have n0_ := aM (KeepBut.blk hk (g' := gb329) (o := .cells #[.int .i64 0, .int .i64 0, .int .i64 0, .int .i64 0, .int .i64 0, .int .i64 0, .int .i64 0, .bool false] 82 (0, 0)) (by (with_reducible repeat (first | refine blk_drewN ?_ _ | refine blk_drew ?_ | refine blk_alloc ?_ _)); refine blk_far ?_ NB329_334.out _; (with_reducible repeat (first | refine blk_drewN ?_ _ | refine blk_drew ?_ | refine blk_alloc ?_ _)); exact BK329.out) NB329_330.out (by simp)); have n1_ := aM (KeepBut.blk hk (g' := gb334) (o := .cells #[.int .i64 t331, .int .i64 t335, .int .i64 0, .int .i64 0, .int .i64 0, .int .i64 0, .int .i64 0, .bool false] 82 (0, 0)) (by (with_reducible repeat (first | refine blk_drewN ?_ _ | refine blk_drew ?_ | refine blk_alloc ?_ _)); refine blk_put (cs := #[.int .i64 t331, .int .i64 0, .int .i64 0, .int .i64 0, .int .i64 0, .int .i64 0, .int .i64 0, .bool false]) ?_ 1 _ rfl; (with_reducible repeat (first | refine blk_drewN ?_ _ | refine blk_drew ?_ | refine blk_alloc ?_ _)); exact BK334.out) NB334_330.out (by simp)); have n2_ := aM (hb); have n3_ := aM (hi); clear BK329 BK334; clear HB HI330; have BK329 := n0_; have BK334 := n1_; have HB := n2_; have HI330 := n3_; clear n0_ n1_ n2_ n3_; (try clear hb); (try clear hk); (try clear hi); have hnb41 := NB334_329.out; have hnc41 := NB329_334.out; have hnb42 := NB334_330.out; have hnc42 := NB330_334.out; have hcz43_0 := cI BK334.out 0; have hcz43_1 := cI BK334.out 1; have hcz43_2 := cI BK334.out 2; have hcz43_3 := cI BK334.out 3; have hcz43_4 := cI BK334.out 4; have hcz43_5 := cI BK334.out 5; have hcz43_6 := cI BK334.out 6; have hcz43_7 := cI BK334.out 7; have hfz43_0 := bF BK334.out 0; have hfz43_1 := bF BK334.out 1; have hfz43_2 := bF BK334.out 2; have hfz43_3 := bF BK334.out 3; have hfz43_4 := bF BK334.out 4; have hfz43_5 := bF BK334.out 5; have hfz43_6 := bF BK334.out 6; have hfz43_7 := bF BK334.out 7))
     go_meet
     case rel => exact ⟨_, _, _, (0), (0), (0), (0), (0), ((t353 == 1)), H', ⟨by have := HJ2.out; first | omega | exact Nat.le_refl _⟩, ⟨by (with_reducible repeat (first | refine blk_drewN ?_ _ | refine blk_drew ?_ | refine blk_alloc ?_ _)); refine blk_far ?_ NB329_334.out _; (with_reducible repeat (first | refine blk_drewN ?_ _ | refine blk_drew ?_ | refine blk_alloc ?_ _)); exact BK329.out⟩, ⟨by (with_reducible repeat (first | refine blk_drewN ?_ _ | refine blk_drew ?_ | refine blk_alloc ?_ _)); refine blk_put (cs := #[.int .i64 t331, .int .i64 t335, .int .i64 0, .int .i64 0, .int .i64 0, .int .i64 0, .int .i64 0, .bool false]) ?_ 7 _ rfl; (with_reducible repeat (first | refine blk_drewN ?_ _ | refine blk_drew ?_ | refine blk_alloc ?_ _)); exact BK334.out⟩, ⟨by repeat (first | (with_reducible first | exact HI330.out | apply IsS142.alloc | apply IsS142.drewN | apply IsS142.drew | apply IsS142.set_1 | apply IsS142.set_2 | apply IsS142.put_0 (hx_ := ⟨HR0.out, HC0.out⟩) | refine IsS142.far ?_ NB330_329.out _ | refine IsS142.far ?_ NB330_334.out _) | exact HI330.out)⟩, ⟨by repeat (first | (with_reducible first | exact HB.out | apply below_alloc | apply pw_below_drewN | apply below_drew1 | refine below_set ?_ (IsS142.ge HI330.out) | refine below_set ?_ GE329.out | refine below_set ?_ GE334.out) | exact HB.out)⟩⟩
    rw [if_pos c20] at H
    have c20b0 : (t331 == 1) = true := beq_iff_eq.mpr c20
    have c20b1 : (t331 != 1) = false := bne_eq_false_iff_eq.mpr c20
    clear c20
    (first | rw [c20b0] | (simp only [i64_w, i32_w]; rw [c20b0]) | skip)
    replace H := Option.bind_eq_some_iff.mp H
    obtain ⟨⟨t338, t339, t340⟩, A210, H⟩ := H
    replace H : ((impl_reader_num.f kj2 l0 t339 t340).bind fun bt341 => ((impl_reader_num.f kj2 l0 bt341.2.1 bt341.2.2).bind fun bt344 => ((impl_reader_num.f kj2 l0 bt344.2.1 bt344.2.2).bind fun bt347 => ((impl_reader_num.f kj2 l0 bt347.2.1 bt347.2.2).bind fun bt350 => (impl_InOf.j1 kj2 l0 a1 l0 bt350.2.1 bt350.2.2 t331 t335 t338 bt341.1 bt344.1 bt347.1 bt350.1 false))))) = some (r1, r2, r3, r4, r5, r6, r7, r8, r9, r10) := H
    have A21 := aM A210
    clear A210
    replace H := Option.bind_eq_some_iff.mp H
    obtain ⟨⟨t341, t342, t343⟩, A220, H⟩ := H
    replace H : ((impl_reader_num.f kj2 l0 t342 t343).bind fun bt344 => ((impl_reader_num.f kj2 l0 bt344.2.1 bt344.2.2).bind fun bt347 => ((impl_reader_num.f kj2 l0 bt347.2.1 bt347.2.2).bind fun bt350 => (impl_InOf.j1 kj2 l0 a1 l0 bt350.2.1 bt350.2.2 t331 t335 t338 t341 bt344.1 bt347.1 bt350.1 false)))) = some (r1, r2, r3, r4, r5, r6, r7, r8, r9, r10) := H
    have A22 := aM A220
    clear A220
    replace H := Option.bind_eq_some_iff.mp H
    obtain ⟨⟨t344, t345, t346⟩, A230, H⟩ := H
    replace H : ((impl_reader_num.f kj2 l0 t345 t346).bind fun bt347 => ((impl_reader_num.f kj2 l0 bt347.2.1 bt347.2.2).bind fun bt350 => (impl_InOf.j1 kj2 l0 a1 l0 bt350.2.1 bt350.2.2 t331 t335 t338 t341 t344 bt347.1 bt350.1 false))) = some (r1, r2, r3, r4, r5, r6, r7, r8, r9, r10) := H
    have A23 := aM A230
    clear A230
    replace H := Option.bind_eq_some_iff.mp H
    obtain ⟨⟨t347, t348, t349⟩, A240, H⟩ := H
    replace H : ((impl_reader_num.f kj2 l0 t348 t349).bind fun bt350 => (impl_InOf.j1 kj2 l0 a1 l0 bt350.2.1 bt350.2.2 t331 t335 t338 t341 t344 t347 bt350.1 false)) = some (r1, r2, r3, r4, r5, r6, r7, r8, r9, r10) := H
    have A24 := aM A240
    clear A240
    replace H := Option.bind_eq_some_iff.mp H
    obtain ⟨⟨t350, t351, t352⟩, A250, H⟩ := H
    replace H : (impl_InOf.j1 kj2 l0 a1 l0 t351 t352 t331 t335 t338 t341 t344 t347 t350 false) = some (r1, r2, r3, r4, r5, r6, r7, r8, r9, r10) := H
    have A25 := aM A250
    clear A250
    have H' := aM H
    clear H
    go_wp2_with (first | ((with_reducible refine gate_callee (f := 115) rfl ?_); refine goesL_ (some 30) rfl rfl Try.func115 (by kernel_rfl) rfl #[.pointer (some ⟨gb330, 0, none⟩)] rfl xR ?_; (with_reducible refine (impl_reader_num.calls kj2 gb330 l0 t336 t337 t338 t339 t340 w _ ?side1 ?side2 A21.out).mono ?_); (case side1 => repeat (first | (with_reducible first | exact HI330.out | apply IsS142.alloc | apply IsS142.drewN | apply IsS142.drew | apply IsS142.set_1 | apply IsS142.set_2 | apply IsS142.put_0 (hx_ := ⟨HR0.out, HC0.out⟩) | refine IsS142.far ?_ NB330_329.out _ | refine IsS142.far ?_ NB330_334.out _) | exact HI330.out)); (case side2 => repeat (first | (with_reducible first | exact HB.out | apply below_alloc | apply pw_below_drewN | apply below_drew1 | refine below_set ?_ (IsS142.ge HI330.out) | refine below_set ?_ GE329.out | refine below_set ?_ GE334.out) | exact HB.out)); rintro e w26 ⟨rfl, hi, hb, hk⟩; refine ⟨_, rfl, ?_⟩; have n0_ := aM (KeepBut.blk hk (g' := gb329) (o := .cells #[.int .i64 0, .int .i64 0, .int .i64 0, .int .i64 0, .int .i64 0, .int .i64 0, .int .i64 0, .bool false] 82 (0, 0)) (by (with_reducible repeat (first | refine blk_drewN ?_ _ | refine blk_drew ?_ | refine blk_alloc ?_ _)); refine blk_far ?_ NB329_334.out _; (with_reducible repeat (first | refine blk_drewN ?_ _ | refine blk_drew ?_ | refine blk_alloc ?_ _)); exact BK329.out) NB329_330.out (by simp)); have n1_ := aM (KeepBut.blk hk (g' := gb334) (o := .cells #[.int .i64 t331, .int .i64 t335, .int .i64 0, .int .i64 0, .int .i64 0, .int .i64 0, .int .i64 0, .bool false] 82 (0, 0)) (by (with_reducible repeat (first | refine blk_drewN ?_ _ | refine blk_drew ?_ | refine blk_alloc ?_ _)); refine blk_put (cs := #[.int .i64 t331, .int .i64 0, .int .i64 0, .int .i64 0, .int .i64 0, .int .i64 0, .int .i64 0, .bool false]) ?_ 1 _ rfl; (with_reducible repeat (first | refine blk_drewN ?_ _ | refine blk_drew ?_ | refine blk_alloc ?_ _)); exact BK334.out) NB334_330.out (by simp)); have n2_ := aM (hb); have n3_ := aM (hi); clear BK329 BK334; clear HB HI330; have BK329 := n0_; have BK334 := n1_; have HB := n2_; have HI330 := n3_; clear n0_ n1_ n2_ n3_; (try clear hb); (try clear hk); (try clear hi); have hnb27 := NB334_329.out; have hnc27 := NB329_334.out; have hnb28 := NB334_330.out; have hnc28 := NB330_334.out; have hcz29_0 := cI BK334.out 0; have hcz29_1 := cI BK334.out 1; have hcz29_2 := cI BK334.out 2; have hcz29_3 := cI BK334.out 3; have hcz29_4 := cI BK334.out 4; have hcz29_5 := cI BK334.out 5; have hcz29_6 := cI BK334.out 6; have hcz29_7 := cI BK334.out 7; have hfz29_0 := bF BK334.out 0; have hfz29_1 := bF BK334.out 1; have hfz29_2 := bF BK334.out 2; have hfz29_3 := bF BK334.out 3; have hfz29_4 := bF BK334.out 4; have hfz29_5 := bF BK334.out 5; have hfz29_6 := bF BK334.out 6; have hfz29_7 := bF BK334.out 7) | ((with_reducible refine gate_callee (f := 115) rfl ?_); refine goesL_ (some 33) rfl rfl Try.func115 (by kernel_rfl) rfl #[.pointer (some ⟨gb330, 0, none⟩)] rfl xR ?_; (with_reducible refine (impl_reader_num.calls kj2 gb330 l0 t339 t340 t341 t342 t343 w _ ?side1 ?side2 A22.out).mono ?_); (case side1 => repeat (first | (with_reducible first | exact HI330.out | apply IsS142.alloc | apply IsS142.drewN | apply IsS142.drew | apply IsS142.set_1 | apply IsS142.set_2 | apply IsS142.put_0 (hx_ := ⟨HR0.out, HC0.out⟩) | refine IsS142.far ?_ NB330_329.out _ | refine IsS142.far ?_ NB330_334.out _) | exact HI330.out)); (case side2 => repeat (first | (with_reducible first | exact HB.out | apply below_alloc | apply pw_below_drewN | apply below_drew1 | refine below_set ?_ (IsS142.ge HI330.out) | refine below_set ?_ GE329.out | refine below_set ?_ GE334.out) | exact HB.out)); rintro e w30 ⟨rfl, hi, hb, hk⟩; refine ⟨_, rfl, ?_⟩; have n0_ := aM (KeepBut.blk hk (g' := gb329) (o := .cells #[.int .i64 0, .int .i64 0, .int .i64 0, .int .i64 0, .int .i64 0, .int .i64 0, .int .i64 0, .bool false] 82 (0, 0)) (by (with_reducible repeat (first | refine blk_drewN ?_ _ | refine blk_drew ?_ | refine blk_alloc ?_ _)); refine blk_far ?_ NB329_334.out _; (with_reducible repeat (first | refine blk_drewN ?_ _ | refine blk_drew ?_ | refine blk_alloc ?_ _)); exact BK329.out) NB329_330.out (by simp)); have n1_ := aM (KeepBut.blk hk (g' := gb334) (o := .cells #[.int .i64 t331, .int .i64 t335, .int .i64 t338, .int .i64 0, .int .i64 0, .int .i64 0, .int .i64 0, .bool false] 82 (0, 0)) (by (with_reducible repeat (first | refine blk_drewN ?_ _ | refine blk_drew ?_ | refine blk_alloc ?_ _)); refine blk_put (cs := #[.int .i64 t331, .int .i64 t335, .int .i64 0, .int .i64 0, .int .i64 0, .int .i64 0, .int .i64 0, .bool false]) ?_ 2 _ rfl; (with_reducible repeat (first | refine blk_drewN ?_ _ | refine blk_drew ?_ | refine blk_alloc ?_ _)); exact BK334.out) NB334_330.out (by simp)); have n2_ := aM (hb); have n3_ := aM (hi); clear BK329 BK334; clear HB HI330; have BK329 := n0_; have BK334 := n1_; have HB := n2_; have HI330 := n3_; clear n0_ n1_ n2_ n3_; (try clear hb); (try clear hk); (try clear hi); have hcz31_0 := cI BK334.out 0; have hcz31_1 := cI BK334.out 1; have hcz31_2 := cI BK334.out 2; have hcz31_3 := cI BK334.out 3; have hcz31_4 := cI BK334.out 4; have hcz31_5 := cI BK334.out 5; have hcz31_6 := cI BK334.out 6; have hcz31_7 := cI BK334.out 7; have hfz31_0 := bF BK334.out 0; have hfz31_1 := bF BK334.out 1; have hfz31_2 := bF BK334.out 2; have hfz31_3 := bF BK334.out 3; have hfz31_4 := bF BK334.out 4; have hfz31_5 := bF BK334.out 5; have hfz31_6 := bF BK334.out 6; have hfz31_7 := bF BK334.out 7) | ((with_reducible refine gate_callee (f := 115) rfl ?_); refine goesL_ (some 36) rfl rfl Try.func115 (by kernel_rfl) rfl #[.pointer (some ⟨gb330, 0, none⟩)] rfl xR ?_; (with_reducible refine (impl_reader_num.calls kj2 gb330 l0 t342 t343 t344 t345 t346 w _ ?side1 ?side2 A23.out).mono ?_); (case side1 => repeat (first | (with_reducible first | exact HI330.out | apply IsS142.alloc | apply IsS142.drewN | apply IsS142.drew | apply IsS142.set_1 | apply IsS142.set_2 | apply IsS142.put_0 (hx_ := ⟨HR0.out, HC0.out⟩) | refine IsS142.far ?_ NB330_329.out _ | refine IsS142.far ?_ NB330_334.out _) | exact HI330.out)); (case side2 => repeat (first | (with_reducible first | exact HB.out | apply below_alloc | apply pw_below_drewN | apply below_drew1 | refine below_set ?_ (IsS142.ge HI330.out) | refine below_set ?_ GE329.out | refine below_set ?_ GE334.out) | exact HB.out)); rintro e w32 ⟨rfl, hi, hb, hk⟩; refine ⟨_, rfl, ?_⟩; have n0_ := aM (KeepBut.blk hk (g' := gb329) (o := .cells #[.int .i64 0, .int .i64 0, .int .i64 0, .int .i64 0, .int .i64 0, .int .i64 0, .int .i64 0, .bool false] 82 (0, 0)) (by (with_reducible repeat (first | refine blk_drewN ?_ _ | refine blk_drew ?_ | refine blk_alloc ?_ _)); refine blk_far ?_ NB329_334.out _; (with_reducible repeat (first | refine blk_drewN ?_ _ | refine blk_drew ?_ | refine blk_alloc ?_ _)); exact BK329.out) NB329_330.out (by simp)); have n1_ := aM (KeepBut.blk hk (g' := gb334) (o := .cells #[.int .i64 t331, .int .i64 t335, .int .i64 t338, .int .i64 t341, .int .i64 0, .int .i64 0, .int .i64 0, .bool false] 82 (0, 0)) (by (with_reducible repeat (first | refine blk_drewN ?_ _ | refine blk_drew ?_ | refine blk_alloc ?_ _)); refine blk_put (cs := #[.int .i64 t331, .int .i64 t335, .int .i64 t338, .int .i64 0, .int .i64 0, .int .i64 0, .int .i64 0, .bool false]) ?_ 3 _ rfl; (with_reducible repeat (first | refine blk_drewN ?_ _ | refine blk_drew ?_ | refine blk_alloc ?_ _)); exact BK334.out) NB334_330.out (by simp)); have n2_ := aM (hb); have n3_ := aM (hi); clear BK329 BK334; clear HB HI330; have BK329 := n0_; have BK334 := n1_; have HB := n2_; have HI330 := n3_; clear n0_ n1_ n2_ n3_; (try clear hb); (try clear hk); (try clear hi); have hcz33_0 := cI BK334.out 0; have hcz33_1 := cI BK334.out 1; have hcz33_2 := cI BK334.out 2; have hcz33_3 := cI BK334.out 3; have hcz33_4 := cI BK334.out 4; have hcz33_5 := cI BK334.out 5; have hcz33_6 := cI BK334.out 6; have hcz33_7 := cI BK334.out 7; have hfz33_0 := bF BK334.out 0; have hfz33_1 := bF BK334.out 1; have hfz33_2 := bF BK334.out 2; have hfz33_3 := bF BK334.out 3; have hfz33_4 := bF BK334.out 4; have hfz33_5 := bF BK334.out 5; have hfz33_6 := bF BK334.out 6; have hfz33_7 := bF BK334.out 7) | ((with_reducible refine gate_callee (f := 115) rfl ?_); refine goesL_ (some 39) rfl rfl Try.func115 (by kernel_rfl) rfl #[.pointer (some ⟨gb330, 0, none⟩)] rfl xR ?_; (with_reducible refine (impl_reader_num.calls kj2 gb330 l0 t345 t346 t347 t348 t349 w _ ?side1 ?side2 A24.out).mono ?_); (case side1 => repeat (first | (with_reducible first | exact HI330.out | apply IsS142.alloc | apply IsS142.drewN | apply IsS142.drew | apply IsS142.set_1 | apply IsS142.set_2 | apply IsS142.put_0 (hx_ := ⟨HR0.out, HC0.out⟩) | refine IsS142.far ?_ NB330_329.out _ | refine IsS142.far ?_ NB330_334.out _) | exact HI330.out)); (case side2 => repeat (first | (with_reducible first | exact HB.out | apply below_alloc | apply pw_below_drewN | apply below_drew1 | refine below_set ?_ (IsS142.ge HI330.out) | refine below_set ?_ GE329.out | refine below_set ?_ GE334.out) | exact HB.out)); rintro e w34 ⟨rfl, hi, hb, hk⟩; refine ⟨_, rfl, ?_⟩; have n0_ := aM (KeepBut.blk hk (g' := gb329) (o := .cells #[.int .i64 0, .int .i64 0, .int .i64 0, .int .i64 0, .int .i64 0, .int .i64 0, .int .i64 0, .bool false] 82 (0, 0)) (by (with_reducible repeat (first | refine blk_drewN ?_ _ | refine blk_drew ?_ | refine blk_alloc ?_ _)); refine blk_far ?_ NB329_334.out _; (with_reducible repeat (first | refine blk_drewN ?_ _ | refine blk_drew ?_ | refine blk_alloc ?_ _)); exact BK329.out) NB329_330.out (by simp)); have n1_ := aM (KeepBut.blk hk (g' := gb334) (o := .cells #[.int .i64 t331, .int .i64 t335, .int .i64 t338, .int .i64 t341, .int .i64 t344, .int .i64 0, .int .i64 0, .bool false] 82 (0, 0)) (by (with_reducible repeat (first | refine blk_drewN ?_ _ | refine blk_drew ?_ | refine blk_alloc ?_ _)); refine blk_put (cs := #[.int .i64 t331, .int .i64 t335, .int .i64 t338, .int .i64 t341, .int .i64 0, .int .i64 0, .int .i64 0, .bool false]) ?_ 4 _ rfl; (with_reducible repeat (first | refine blk_drewN ?_ _ | refine blk_drew ?_ | refine blk_alloc ?_ _)); exact BK334.out) NB334_330.out (by simp)); have n2_ := aM (hb); have n3_ := aM (hi); clear BK329 BK334; clear HB HI330; have BK329 := n0_; have BK334 := n1_; have HB := n2_; have HI330 := n3_; clear n0_ n1_ n2_ n3_; (try clear hb); (try clear hk); (try clear hi); have hcz35_0 := cI BK334.out 0; have hcz35_1 := cI BK334.out 1; have hcz35_2 := cI BK334.out 2; have hcz35_3 := cI BK334.out 3; have hcz35_4 := cI BK334.out 4; have hcz35_5 := cI BK334.out 5; have hcz35_6 := cI BK334.out 6; have hcz35_7 := cI BK334.out 7; have hfz35_0 := bF BK334.out 0; have hfz35_1 := bF BK334.out 1; have hfz35_2 := bF BK334.out 2; have hfz35_3 := bF BK334.out 3; have hfz35_4 := bF BK334.out 4; have hfz35_5 := bF BK334.out 5; have hfz35_6 := bF BK334.out 6; have hfz35_7 := bF BK334.out 7) | ((with_reducible refine gate_callee (f := 115) rfl ?_); refine goesL_ (some 42) rfl rfl Try.func115 (by kernel_rfl) rfl #[.pointer (some ⟨gb330, 0, none⟩)] rfl xR ?_; (with_reducible refine (impl_reader_num.calls kj2 gb330 l0 t348 t349 t350 t351 t352 w _ ?side1 ?side2 A25.out).mono ?_); (case side1 => repeat (first | (with_reducible first | exact HI330.out | apply IsS142.alloc | apply IsS142.drewN | apply IsS142.drew | apply IsS142.set_1 | apply IsS142.set_2 | apply IsS142.put_0 (hx_ := ⟨HR0.out, HC0.out⟩) | refine IsS142.far ?_ NB330_329.out _ | refine IsS142.far ?_ NB330_334.out _) | exact HI330.out)); (case side2 => repeat (first | (with_reducible first | exact HB.out | apply below_alloc | apply pw_below_drewN | apply below_drew1 | refine below_set ?_ (IsS142.ge HI330.out) | refine below_set ?_ GE329.out | refine below_set ?_ GE334.out) | exact HB.out)); rintro e w36 ⟨rfl, hi, hb, hk⟩; refine ⟨_, rfl, ?_⟩; have n0_ := aM (KeepBut.blk hk (g' := gb329) (o := .cells #[.int .i64 0, .int .i64 0, .int .i64 0, .int .i64 0, .int .i64 0, .int .i64 0, .int .i64 0, .bool false] 82 (0, 0)) (by (with_reducible repeat (first | refine blk_drewN ?_ _ | refine blk_drew ?_ | refine blk_alloc ?_ _)); refine blk_far ?_ NB329_334.out _; (with_reducible repeat (first | refine blk_drewN ?_ _ | refine blk_drew ?_ | refine blk_alloc ?_ _)); exact BK329.out) NB329_330.out (by simp)); have n1_ := aM (KeepBut.blk hk (g' := gb334) (o := .cells #[.int .i64 t331, .int .i64 t335, .int .i64 t338, .int .i64 t341, .int .i64 t344, .int .i64 t347, .int .i64 0, .bool false] 82 (0, 0)) (by (with_reducible repeat (first | refine blk_drewN ?_ _ | refine blk_drew ?_ | refine blk_alloc ?_ _)); refine blk_put (cs := #[.int .i64 t331, .int .i64 t335, .int .i64 t338, .int .i64 t341, .int .i64 t344, .int .i64 0, .int .i64 0, .bool false]) ?_ 5 _ rfl; (with_reducible repeat (first | refine blk_drewN ?_ _ | refine blk_drew ?_ | refine blk_alloc ?_ _)); exact BK334.out) NB334_330.out (by simp)); have n2_ := aM (hb); have n3_ := aM (hi); clear BK329 BK334; clear HB HI330; have BK329 := n0_; have BK334 := n1_; have HB := n2_; have HI330 := n3_; clear n0_ n1_ n2_ n3_; (try clear hb); (try clear hk); (try clear hi); have hcz37_0 := cI BK334.out 0; have hcz37_1 := cI BK334.out 1; have hcz37_2 := cI BK334.out 2; have hcz37_3 := cI BK334.out 3; have hcz37_4 := cI BK334.out 4; have hcz37_5 := cI BK334.out 5; have hcz37_6 := cI BK334.out 6; have hcz37_7 := cI BK334.out 7; have hfz37_0 := bF BK334.out 0; have hfz37_1 := bF BK334.out 1; have hfz37_2 := bF BK334.out 2; have hfz37_3 := bF BK334.out 3; have hfz37_4 := bF BK334.out 4; have hfz37_5 := bF BK334.out 5; have hfz37_6 := bF BK334.out 6; have hfz37_7 := bF BK334.out 7))
    go_meet
    case rel => exact ⟨_, _, _, (t338), (t341), (t344), (t347), (t350), (false), H', ⟨by have := HJ2.out; first | omega | exact Nat.le_refl _⟩, ⟨by (with_reducible repeat (first | refine blk_drewN ?_ _ | refine blk_drew ?_ | refine blk_alloc ?_ _)); refine blk_far ?_ NB329_334.out _; (with_reducible repeat (first | refine blk_drewN ?_ _ | refine blk_drew ?_ | refine blk_alloc ?_ _)); exact BK329.out⟩, ⟨by (with_reducible repeat (first | refine blk_drewN ?_ _ | refine blk_drew ?_ | refine blk_alloc ?_ _)); refine blk_put (cs := #[.int .i64 t331, .int .i64 t335, .int .i64 t338, .int .i64 t341, .int .i64 t344, .int .i64 t347, .int .i64 0, .bool false]) ?_ 6 _ rfl; (with_reducible repeat (first | refine blk_drewN ?_ _ | refine blk_drew ?_ | refine blk_alloc ?_ _)); exact BK334.out⟩, ⟨by repeat (first | (with_reducible first | exact HI330.out | apply IsS142.alloc | apply IsS142.drewN | apply IsS142.drew | apply IsS142.set_1 | apply IsS142.set_2 | apply IsS142.put_0 (hx_ := ⟨HR0.out, HC0.out⟩) | refine IsS142.far ?_ NB330_329.out _ | refine IsS142.far ?_ NB330_334.out _) | exact HI330.out)⟩, ⟨by repeat (first | (with_reducible first | exact HB.out | apply below_alloc | apply pw_below_drewN | apply below_drew1 | refine below_set ?_ (IsS142.ge HI330.out) | refine below_set ?_ GE329.out | refine below_set ?_ GE334.out) | exact HB.out)⟩⟩
   case rest =>
    clear HC10
    try clear c1
    try clear c2
    try clear p2
    try clear c3
    try clear c4
    try clear c5
    try clear c5b0
    try clear c6
    try clear c11
    try clear c15
    try clear c16
    try clear c20
    try clear c20b0
    try clear c20b1
    try clear c27
    try clear c28
    try clear c38
    try clear c38b0
    try clear c38b1
    try clear c41
    try clear c42
    try clear hcz12_0
    try clear hcz12_1
    try clear hcz12_2
    try clear hcz17_0
    try clear hcz17_1
    try clear hcz17_2
    try clear hcz17_3
    try clear hcz17_4
    try clear hcz17_5
    try clear hcz17_6
    try clear hcz17_7
    try clear hcz19_0
    try clear hcz19_1
    try clear hcz19_2
    try clear hcz19_3
    try clear hcz19_4
    try clear hcz19_5
    try clear hcz19_6
    try clear hcz19_7
    try clear hcz29_0
    try clear hcz29_1
    try clear hcz29_2
    try clear hcz29_3
    try clear hcz29_4
    try clear hcz29_5
    try clear hcz29_6
    try clear hcz29_7
    try clear hcz31_0
    try clear hcz31_1
    try clear hcz31_2
    try clear hcz31_3
    try clear hcz31_4
    try clear hcz31_5
    try clear hcz31_6
    try clear hcz31_7
    try clear hcz33_0
    try clear hcz33_1
    try clear hcz33_2
    try clear hcz33_3
    try clear hcz33_4
    try clear hcz33_5
    try clear hcz33_6
    try clear hcz33_7
    try clear hcz35_0
    try clear hcz35_1
    try clear hcz35_2
    try clear hcz35_3
    try clear hcz35_4
    try clear hcz35_5
    try clear hcz35_6
    try clear hcz35_7
    try clear hcz37_0
    try clear hcz37_1
    try clear hcz37_2
    try clear hcz37_3
    try clear hcz37_4
    try clear hcz37_5
    try clear hcz37_6
    try clear hcz37_7
    try clear hcz43_0
    try clear hcz43_1
    try clear hcz43_2
    try clear hcz43_3
    try clear hcz43_4
    try clear hcz43_5
    try clear hcz43_6
    try clear hcz43_7
    try clear hcz7_0
    try clear hcz7_1
    try clear hcz7_2
    try clear hcz7_3
    try clear hcz7_4
    try clear hcz7_5
    try clear hcz7_6
    try clear hcz7_7
    try clear hfz12_0
    try clear hfz12_1
    try clear hfz12_2
    try clear hfz17_0
    try clear hfz17_1
    try clear hfz17_2
    try clear hfz17_3
    try clear hfz17_4
    try clear hfz17_5
    try clear hfz17_6
    try clear hfz17_7
    try clear hfz19_0
    try clear hfz19_1
    try clear hfz19_2
    try clear hfz19_3
    try clear hfz19_4
    try clear hfz19_5
    try clear hfz19_6
    try clear hfz19_7
    try clear hfz29_0
    try clear hfz29_1
    try clear hfz29_2
    try clear hfz29_3
    try clear hfz29_4
    try clear hfz29_5
    try clear hfz29_6
    try clear hfz29_7
    try clear hfz31_0
    try clear hfz31_1
    try clear hfz31_2
    try clear hfz31_3
    try clear hfz31_4
    try clear hfz31_5
    try clear hfz31_6
    try clear hfz31_7
    try clear hfz33_0
    try clear hfz33_1
    try clear hfz33_2
    try clear hfz33_3
    try clear hfz33_4
    try clear hfz33_5
    try clear hfz33_6
    try clear hfz33_7
    try clear hfz35_0
    try clear hfz35_1
    try clear hfz35_2
    try clear hfz35_3
    try clear hfz35_4
    try clear hfz35_5
    try clear hfz35_6
    try clear hfz35_7
    try clear hfz37_0
    try clear hfz37_1
    try clear hfz37_2
    try clear hfz37_3
    try clear hfz37_4
    try clear hfz37_5
    try clear hfz37_6
    try clear hfz37_7
    try clear hfz43_0
    try clear hfz43_1
    try clear hfz43_2
    try clear hfz43_3
    try clear hfz43_4
    try clear hfz43_5
    try clear hfz43_6
    try clear hfz43_7
    try clear hfz7_0
    try clear hfz7_1
    try clear hfz7_2
    try clear hfz7_3
    try clear hfz7_4
    try clear hfz7_5
    try clear hfz7_6
    try clear hfz7_7
    try clear p2
    obtain ⟨kq, t336, t337, x335002_9, x335003_9, x335004_9, x335005_9, x335006_9, x335007_9, HA, HJ9, BK329, BK334, HI330, HB⟩ := hcut
    cases kq with
    | zero => exact absurd HA.out (by simp [impl_InOf.j1])
    | succ kj9 =>
     have H := HA.out
     clear HA
     simp only [impl_InOf.j1] at H
     replace H := Option.bind_eq_some_iff.mp H
     obtain ⟨t356, A440, H⟩ := H
     replace H : (if t337 = true then (some (0, 0, 0, 0, 0, 0, 0, false, 0, false)) else (if (t356.length : Int) = 0 then (some (0, 0, 0, 0, 0, 0, 0, false, 0, false)) else (if 0 ≤ a1 then (if a1 ≤ (l0.length : Int) then ((bytes_HasPrefix.f (l0.drop (a1 : Int).toNat) t356).bind fun t360 => (if t360 = true then (some (t331, t335, x335002_9, x335003_9, x335004_9, x335005_9, x335006_9, x335007_9, wrap64 (a1 + (t356.length : Int)), true)) else (some (0, 0, 0, 0, 0, 0, 0, false, 0, false)))) else (none)) else (none)))) = some (r1, r2, r3, r4, r5, r6, r7, r8, r9, r10) := H
     have A44 := aM A440
     clear A440
     by_cases c45 : t337 = true
     case pos =>
      subst c45
      have H1 : (some (0, 0, 0, 0, 0, 0, 0, false, 0, false)) = some (r1, r2, r3, r4, r5, r6, r7, r8, r9, r10) := by rw [if_pos rfl] at H; exact H
      clear H
      have H := H1
      clear H1
      simp only [Option.some.injEq, Prod.mk.injEq] at H
      obtain ⟨rfl, rfl, rfl, rfl, rfl, rfl, rfl, rfl, rfl, rfl⟩ := H
      have hnb46 := NB334_329.out
      have hnc46 := NB329_334.out
      have hnb47 := NB334_330.out
      have hnc47 := NB330_334.out
      have hcz48_0 := cI BK334.out 0
      have hcz48_1 := cI BK334.out 1
      have hcz48_2 := cI BK334.out 2
      have hcz48_3 := cI BK334.out 3
      have hcz48_4 := cI BK334.out 4
      have hcz48_5 := cI BK334.out 5
      have hcz48_6 := cI BK334.out 6
      have hcz48_7 := cI BK334.out 7
      have hfz48_0 := bF BK334.out 0
      have hfz48_1 := bF BK334.out 1
      have hfz48_2 := bF BK334.out 2
      have hfz48_3 := bF BK334.out 3
      have hfz48_4 := bF BK334.out 4
      have hfz48_5 := bF BK334.out 5
      have hfz48_6 := bF BK334.out 6
      have hfz48_7 := bF BK334.out 7
      go_wp2_with (first | ((with_reducible refine gate_callee (f := 98) rfl ?_); refine goesL_ (some 50) rfl rfl Try.func98 (by kernel_rfl) rfl #[.agg #[.int .i64 t331, .int .i64 t335, .int .i64 x335002_9, .int .i64 x335003_9, .int .i64 x335004_9, .int .i64 x335005_9, .int .i64 x335006_9, .bool x335007_9]] rfl xR ?_; (with_reducible refine (impl_InBytes.calls kj9 t331 t335 x335002_9 x335003_9 x335004_9 x335005_9 x335006_9 x335007_9 t356 _ A44.out).mono ?_); rintro e w49 ⟨v357, rfl, ho0, hb⟩; refine ⟨_, rfl, ?_⟩; have n0_ := aM (Kd.R_lower ho0 (below_size (by repeat (first | (with_reducible first | exact HB.out | apply below_alloc | apply pw_below_drewN | apply below_drew1 | refine below_set ?_ (IsS142.ge HI330.out) | refine below_set ?_ GE329.out | refine below_set ?_ GE334.out) | exact HB.out)))); have n1_ := aM (bB (g := gb329) (o := .cells #[.int .i64 0, .int .i64 0, .int .i64 0, .int .i64 0, .int .i64 0, .int .i64 0, .int .i64 0, .bool false] 82 (0, 0)) (bk BK329.out) hb); have n2_ := aM (bB (g := gb334) (o := .cells #[.int .i64 t331, .int .i64 t335, .int .i64 x335002_9, .int .i64 x335003_9, .int .i64 x335004_9, .int .i64 x335005_9, .int .i64 x335006_9, .bool x335007_9] 82 (0, 0)) (bk BK334.out) hb); have n3_ := aM (IsS142.below (by repeat (first | (with_reducible first | exact HI330.out | apply IsS142.alloc | apply IsS142.drewN | apply IsS142.drew | apply IsS142.set_1 | apply IsS142.set_2 | apply IsS142.put_0 (hx_ := ⟨HR0.out, HC0.out⟩) | refine IsS142.far ?_ NB330_329.out _ | refine IsS142.far ?_ NB330_334.out _) | exact HI330.out)) hb); have n4_ := aM (bS (by repeat (first | (with_reducible first | exact HB.out | apply below_alloc | apply pw_below_drewN | apply below_drew1 | refine below_set ?_ (IsS142.ge HI330.out) | refine below_set ?_ GE329.out | refine below_set ?_ GE334.out) | exact HB.out)) hb); clear BK329 BK334; clear HI330 HB; have HO358 := n0_; have BK329 := n1_; have BK334 := n2_; have HI330 := n3_; have HB := n4_; clear n0_ n1_ n2_ n3_ n4_; (try clear hb); (try clear ho0); obtain ⟨ASz50_0, cSz50_0, HGz50, hgz50, HSz50_0⟩ := HI330.out; have hcz50_0 := cellS142_0 HGz50; have hcz50_1 := cellS142_1 HGz50; have hcz50_2 := cellS142_2 HGz50; have hfz50_0 := bF HGz50 0; have hfz50_1 := bF HGz50 1; have hfz50_2 := bF HGz50 2; clear HGz50 hgz50; have hnb51 := NB329_330.out; have hnc51 := NB330_329.out; have hcz52_0 := cI BK329.out 0; have hcz52_1 := cI BK329.out 1; have hcz52_2 := cI BK329.out 2; have hcz52_3 := cI BK329.out 3; have hcz52_4 := cI BK329.out 4; have hcz52_5 := cI BK329.out 5; have hcz52_6 := cI BK329.out 6; have hcz52_7 := cI BK329.out 7; have hfz52_0 := bF BK329.out 0; have hfz52_1 := bF BK329.out 1; have hfz52_2 := bF BK329.out 2; have hfz52_3 := bF BK329.out 3; have hfz52_4 := bF BK329.out 4; have hfz52_5 := bF BK329.out 5; have hfz52_6 := bF BK329.out 6; have hfz52_7 := bF BK329.out 7))
      refine bodyPost_ret (results_ctt rfl _ _ gb329 82 #[.int .i64 0, .int .i64 0, .int .i64 0, .int .i64 0, .int .i64 0, .int .i64 0, .int .i64 0, .bool false] (0, 0) _ rfl (by (with_reducible repeat (first | refine blk_drewN ?_ _ | refine blk_drew ?_ | refine blk_alloc ?_ _)); refine blk_put (cs := #[.int .i64 0, .int .i64 0, .int .i64 0, .int .i64 0, .int .i64 0, .int .i64 0, .int .i64 0, .bool false]) ?_ 7 _ rfl; (with_reducible repeat (first | refine blk_drewN ?_ _ | refine blk_drew ?_ | refine blk_alloc ?_ _)); refine blk_put (cs := #[.int .i64 0, .int .i64 0, .int .i64 0, .int .i64 0, .int .i64 0, .int .i64 0, .int .i64 0, .bool false]) ?_ 6 _ rfl; (with_reducible repeat (first | refine blk_drewN ?_ _ | refine blk_drew ?_ | refine blk_alloc ?_ _)); refine blk_put (cs := #[.int .i64 0, .int .i64 0, .int .i64 0, .int .i64 0, .int .i64 0, .int .i64 0, .int .i64 0, .bool false]) ?_ 5 _ rfl; (with_reducible repeat (first | refine blk_drewN ?_ _ | refine blk_drew ?_ | refine blk_alloc ?_ _)); refine blk_put (cs := #[.int .i64 0, .int .i64 0, .int .i64 0, .int .i64 0, .int .i64 0, .int .i64 0, .int .i64 0, .bool false]) ?_ 4 _ rfl; (with_reducible repeat (first | refine blk_drewN ?_ _ | refine blk_drew ?_ | refine blk_alloc ?_ _)); refine blk_put (cs := #[.int .i64 0, .int .i64 0, .int .i64 0, .int .i64 0, .int .i64 0, .int .i64 0, .int .i64 0, .bool false]) ?_ 3 _ rfl; (with_reducible repeat (first | refine blk_drewN ?_ _ | refine blk_drew ?_ | refine blk_alloc ?_ _)); refine blk_put (cs := #[.int .i64 0, .int .i64 0, .int .i64 0, .int .i64 0, .int .i64 0, .int .i64 0, .int .i64 0, .bool false]) ?_ 2 _ rfl; (with_reducible repeat (first | refine blk_drewN ?_ _ | refine blk_drew ?_ | refine blk_alloc ?_ _)); refine blk_put (cs := #[.int .i64 0, .int .i64 0, .int .i64 0, .int .i64 0, .int .i64 0, .int .i64 0, .int .i64 0, .bool false]) ?_ 1 _ rfl; (with_reducible repeat (first | refine blk_drewN ?_ _ | refine blk_drew ?_ | refine blk_alloc ?_ _)); refine blk_put (cs := #[.int .i64 0, .int .i64 0, .int .i64 0, .int .i64 0, .int .i64 0, .int .i64 0, .int .i64 0, .bool false]) ?_ 0 _ rfl; (with_reducible repeat (first | refine blk_drewN ?_ _ | refine blk_drew ?_ | refine blk_alloc ?_ _)); exact BK329.out) Try.underlying82 rfl (by kernel_rfl)) rfl ?_
      exact ⟨xW, by repeat (first | (with_reducible first | exact HB.out | apply below_alloc | apply pw_below_drewN | apply below_drew1 | refine below_set ?_ (IsS142.ge HI330.out) | refine below_set ?_ GE329.out | refine below_set ?_ GE334.out) | exact HB.out)⟩
     replace c45 := Bool.eq_false_iff.mpr c45
     subst c45
     have H1 : (if (t356.length : Int) = 0 then (some (0, 0, 0, 0, 0, 0, 0, false, 0, false)) else (if 0 ≤ a1 then (if a1 ≤ (l0.length : Int) then ((bytes_HasPrefix.f (l0.drop (a1 : Int).toNat) t356).bind fun t360 => (if t360 = true then (some (t331, t335, x335002_9, x335003_9, x335004_9, x335005_9, x335006_9, x335007_9, wrap64 (a1 + (t356.length : Int)), true)) else (some (0, 0, 0, 0, 0, 0, 0, false, 0, false)))) else (none)) else (none))) = some (r1, r2, r3, r4, r5, r6, r7, r8, r9, r10) := by rw [if_neg (show ¬ (false = true) by decide)] at H; exact H
     clear H
     have H := H1
     clear H1
     by_cases c53 : (t356.length : Int) = 0
     case pos =>
      rw [if_pos c53] at H
      have c53b0 : ((t356.length : Int) == 0) = true := beq_iff_eq.mpr c53
      have c53b1 : ((t356.length : Int) != 0) = false := bne_eq_false_iff_eq.mpr c53
      clear c53
      simp only [Option.some.injEq, Prod.mk.injEq] at H
      obtain ⟨rfl, rfl, rfl, rfl, rfl, rfl, rfl, rfl, rfl, rfl⟩ := H
      have hnb54 := NB334_329.out
      have hnc54 := NB329_334.out
      have hnb55 := NB334_330.out
      have hnc55 := NB330_334.out
      have hcz56_0 := cI BK334.out 0
      have hcz56_1 := cI BK334.out 1
      have hcz56_2 := cI BK334.out 2
      have hcz56_3 := cI BK334.out 3
      have hcz56_4 := cI BK334.out 4
      have hcz56_5 := cI BK334.out 5
      have hcz56_6 := cI BK334.out 6
      have hcz56_7 := cI BK334.out 7
      have hfz56_0 := bF BK334.out 0
      have hfz56_1 := bF BK334.out 1
      have hfz56_2 := bF BK334.out 2
      have hfz56_3 := bF BK334.out 3
      have hfz56_4 := bF BK334.out 4
      have hfz56_5 := bF BK334.out 5
      have hfz56_6 := bF BK334.out 6
      have hfz56_7 := bF BK334.out 7
      go_wp2_with (first | ((with_reducible refine gate_callee (f := 98) rfl ?_); refine goesL_ (some 50) rfl rfl Try.func98 (by kernel_rfl) rfl #[.agg #[.int .i64 t331, .int .i64 t335, .int .i64 x335002_9, .int .i64 x335003_9, .int .i64 x335004_9, .int .i64 x335005_9, .int .i64 x335006_9, .bool x335007_9]] rfl xR ?_; (with_reducible refine (impl_InBytes.calls kj9 t331 t335 x335002_9 x335003_9 x335004_9 x335005_9 x335006_9 x335007_9 t356 _ A44.out).mono ?_); rintro e w57 ⟨v357, rfl, ho0, hb⟩; refine ⟨_, rfl, ?_⟩; have n0_ := aM (Kd.R_lower ho0 (below_size (by repeat (first | (with_reducible first | exact HB.out | apply below_alloc | apply pw_below_drewN | apply below_drew1 | refine below_set ?_ (IsS142.ge HI330.out) | refine below_set ?_ GE329.out | refine below_set ?_ GE334.out) | exact HB.out)))); have n1_ := aM (bB (g := gb329) (o := .cells #[.int .i64 0, .int .i64 0, .int .i64 0, .int .i64 0, .int .i64 0, .int .i64 0, .int .i64 0, .bool false] 82 (0, 0)) (bk BK329.out) hb); have n2_ := aM (bB (g := gb334) (o := .cells #[.int .i64 t331, .int .i64 t335, .int .i64 x335002_9, .int .i64 x335003_9, .int .i64 x335004_9, .int .i64 x335005_9, .int .i64 x335006_9, .bool x335007_9] 82 (0, 0)) (bk BK334.out) hb); have n3_ := aM (IsS142.below (by repeat (first | (with_reducible first | exact HI330.out | apply IsS142.alloc | apply IsS142.drewN | apply IsS142.drew | apply IsS142.set_1 | apply IsS142.set_2 | apply IsS142.put_0 (hx_ := ⟨HR0.out, HC0.out⟩) | refine IsS142.far ?_ NB330_329.out _ | refine IsS142.far ?_ NB330_334.out _) | exact HI330.out)) hb); have n4_ := aM (bS (by repeat (first | (with_reducible first | exact HB.out | apply below_alloc | apply pw_below_drewN | apply below_drew1 | refine below_set ?_ (IsS142.ge HI330.out) | refine below_set ?_ GE329.out | refine below_set ?_ GE334.out) | exact HB.out)) hb); clear BK329 BK334; clear HI330 HB; have HO358 := n0_; have BK329 := n1_; have BK334 := n2_; have HI330 := n3_; have HB := n4_; clear n0_ n1_ n2_ n3_ n4_; (try clear hb); (try clear ho0); obtain ⟨ASz58_0, cSz58_0, HGz58, hgz58, HSz58_0⟩ := HI330.out; have hcz58_0 := cellS142_0 HGz58; have hcz58_1 := cellS142_1 HGz58; have hcz58_2 := cellS142_2 HGz58; have hfz58_0 := bF HGz58 0; have hfz58_1 := bF HGz58 1; have hfz58_2 := bF HGz58 2; clear HGz58 hgz58; obtain ⟨Ao59, co59, eo59⟩ := Kd.R_slice HO358.out; subst eo59; have hnb60 := NB329_330.out; have hnc60 := NB330_329.out; have hcz61_0 := cI BK329.out 0; have hcz61_1 := cI BK329.out 1; have hcz61_2 := cI BK329.out 2; have hcz61_3 := cI BK329.out 3; have hcz61_4 := cI BK329.out 4; have hcz61_5 := cI BK329.out 5; have hcz61_6 := cI BK329.out 6; have hcz61_7 := cI BK329.out 7; have hfz61_0 := bF BK329.out 0; have hfz61_1 := bF BK329.out 1; have hfz61_2 := bF BK329.out 2; have hfz61_3 := bF BK329.out 3; have hfz61_4 := bF BK329.out 4; have hfz61_5 := bF BK329.out 5; have hfz61_6 := bF BK329.out 6; have hfz61_7 := bF BK329.out 7))
      refine bodyPost_ret (results_ctt rfl _ _ gb329 82 #[.int .i64 0, .int .i64 0, .int .i64 0, .int .i64 0, .int .i64 0, .int .i64 0, .int .i64 0, .bool false] (0, 0) _ rfl (by (with_reducible repeat (first | refine blk_drewN ?_ _ | refine blk_drew ?_ | refine blk_alloc ?_ _)); refine blk_put (cs := #[.int .i64 0, .int .i64 0, .int .i64 0, .int .i64 0, .int .i64 0, .int .i64 0, .int .i64 0, .bool false]) ?_ 7 _ rfl; (with_reducible repeat (first | refine blk_drewN ?_ _ | refine blk_drew ?_ | refine blk_alloc ?_ _)); refine blk_put (cs := #[.int .i64 0, .int .i64 0, .int .i64 0, .int .i64 0, .int .i64 0, .int .i64 0, .int .i64 0, .bool false]) ?_ 6 _ rfl; (with_reducible repeat (first | refine blk_drewN ?_ _ | refine blk_drew ?_ | refine blk_alloc ?_ _)); refine blk_put (cs := #[.int .i64 0, .int .i64 0, .int .i64 0, .int .i64 0, .int .i64 0, .int .i64 0, .int .i64 0, .bool false]) ?_ 5 _ rfl; (with_reducible repeat (first | refine blk_drewN ?_ _ | refine blk_drew ?_ | refine blk_alloc ?_ _)); refine blk_put (cs := #[.int .i64 0, .int .i64 0, .int .i64 0, .int .i64 0, .int .i64 0, .int .i64 0, .int .i64 0, .bool false]) ?_ 4 _ rfl; (with_reducible repeat (first | refine blk_drewN ?_ _ | refine blk_drew ?_ | refine blk_alloc ?_ _)); refine blk_put (cs := #[.int .i64 0, .int .i64 0, .int .i64 0, .int .i64 0, .int .i64 0, .int .i64 0, .int .i64 0, .bool false]) ?_ 3 _ rfl; (with_reducible repeat (first | refine blk_drewN ?_ _ | refine blk_drew ?_ | refine blk_alloc ?_ _)); refine blk_put (cs := #[.int .i64 0, .int .i64 0, .int .i64 0, .int .i64 0, .int .i64 0, .int .i64 0, .int .i64 0, .bool false]) ?_ 2 _ rfl; (with_reducible repeat (first | refine blk_drewN ?_ _ | refine blk_drew ?_ | refine blk_alloc ?_ _)); refine blk_put (cs := #[.int .i64 0, .int .i64 0, .int .i64 0, .int .i64 0, .int .i64 0, .int .i64 0, .int .i64 0, .bool false]) ?_ 1 _ rfl; (with_reducible repeat (first | refine blk_drewN ?_ _ | refine blk_drew ?_ | refine blk_alloc ?_ _)); refine blk_put (cs := #[.int .i64 0, .int .i64 0, .int .i64 0, .int .i64 0, .int .i64 0, .int .i64 0, .int .i64 0, .bool false]) ?_ 0 _ rfl; (with_reducible repeat (first | refine blk_drewN ?_ _ | refine blk_drew ?_ | refine blk_alloc ?_ _)); exact BK329.out) Try.underlying82 rfl (by kernel_rfl)) rfl ?_
      exact ⟨xW, by repeat (first | (with_reducible first | exact HB.out | apply below_alloc | apply pw_below_drewN | apply below_drew1 | refine below_set ?_ (IsS142.ge HI330.out) | refine below_set ?_ GE329.out | refine below_set ?_ GE334.out) | exact HB.out)⟩
     rw [if_neg c53] at H
     have c53b0 : ((t356.length : Int) == 0) = false := beq_eq_false_iff_ne.mpr c53
     have c53b1 : ((t356.length : Int) != 0) = true := bne_iff_ne.mpr c53
     have c53b2 : ¬ (t356 = []) := fun h_ => c53 (by rw [h_]; rfl)
     by_cases c62 : 0 ≤ a1
     case neg =>
      rw [if_neg c62] at H
      exact absurd H (by simp)
     rw [if_pos c62] at H
     have c62b0 := eq_true c62
     have c62b1 : decide (0 ≤ a1) = true := decide_eq_true c62
     clear c62
     by_cases c63 : a1 ≤ (l0.length : Int)
     case neg =>
      rw [if_neg c63] at H
      exact absurd H (by simp)
     rw [if_pos c63] at H
     have c63b0 := eq_true c63
     have c63b1 : decide (a1 ≤ (l0.length : Int)) = true := decide_eq_true c63
     clear c63
     replace H := Option.bind_eq_some_iff.mp H
     obtain ⟨t360, A640, H⟩ := H
     replace H : (if t360 = true then (some (t331, t335, x335002_9, x335003_9, x335004_9, x335005_9, x335006_9, x335007_9, wrap64 (a1 + (t356.length : Int)), true)) else (some (0, 0, 0, 0, 0, 0, 0, false, 0, false))) = some (r1, r2, r3, r4, r5, r6, r7, r8, r9, r10) := H
     have A64 := aM A640
     clear A640
     by_cases c65 : t360 = true
     case pos =>
      subst c65
      have H1 : (some (t331, t335, x335002_9, x335003_9, x335004_9, x335005_9, x335006_9, x335007_9, wrap64 (a1 + (t356.length : Int)), true)) = some (r1, r2, r3, r4, r5, r6, r7, r8, r9, r10) := by rw [if_pos rfl] at H; exact H
      clear H
      have H := H1
      clear H1
      simp only [Option.some.injEq, Prod.mk.injEq] at H
      obtain ⟨rfl, rfl, rfl, rfl, rfl, rfl, rfl, rfl, rfl, rfl⟩ := H
      have hnb66 := NB334_329.out
      have hnc66 := NB329_334.out
      have hnb67 := NB334_330.out
      have hnc67 := NB330_334.out
      have hcz68_0 := cI BK334.out 0
      have hcz68_1 := cI BK334.out 1
      have hcz68_2 := cI BK334.out 2
      have hcz68_3 := cI BK334.out 3
      have hcz68_4 := cI BK334.out 4
      have hcz68_5 := cI BK334.out 5
      have hcz68_6 := cI BK334.out 6
      have hcz68_7 := cI BK334.out 7
      have hfz68_0 := bF BK334.out 0
      have hfz68_1 := bF BK334.out 1
      have hfz68_2 := bF BK334.out 2
      have hfz68_3 := bF BK334.out 3
      have hfz68_4 := bF BK334.out 4
      have hfz68_5 := bF BK334.out 5
      have hfz68_6 := bF BK334.out 6
      have hfz68_7 := bF BK334.out 7
      go_wp2_with (first | ((with_reducible refine gate_callee (f := 98) rfl ?_); refine goesL_ (some 50) rfl rfl Try.func98 (by kernel_rfl) rfl #[.agg #[.int .i64 t331, .int .i64 t335, .int .i64 x335002_9, .int .i64 x335003_9, .int .i64 x335004_9, .int .i64 x335005_9, .int .i64 x335006_9, .bool x335007_9]] rfl xR ?_; (with_reducible refine (impl_InBytes.calls kj9 t331 t335 x335002_9 x335003_9 x335004_9 x335005_9 x335006_9 x335007_9 t356 _ A44.out).mono ?_); rintro e w69 ⟨v357, rfl, ho0, hb⟩; refine ⟨_, rfl, ?_⟩; have n0_ := aM (Kd.R_lower ho0 (below_size (by repeat (first | (with_reducible first | exact HB.out | apply below_alloc | apply pw_below_drewN | apply below_drew1 | refine below_set ?_ (IsS142.ge HI330.out) | refine below_set ?_ GE329.out | refine below_set ?_ GE334.out) | exact HB.out)))); have n1_ := aM (bB (g := gb329) (o := .cells #[.int .i64 0, .int .i64 0, .int .i64 0, .int .i64 0, .int .i64 0, .int .i64 0, .int .i64 0, .bool false] 82 (0, 0)) (bk BK329.out) hb); have n2_ := aM (bB (g := gb334) (o := .cells #[.int .i64 t331, .int .i64 t335, .int .i64 x335002_9, .int .i64 x335003_9, .int .i64 x335004_9, .int .i64 x335005_9, .int .i64 x335006_9, .bool x335007_9] 82 (0, 0)) (bk BK334.out) hb); have n3_ := aM (IsS142.below (by repeat (first | (with_reducible first | exact HI330.out | apply IsS142.alloc | apply IsS142.drewN | apply IsS142.drew | apply IsS142.set_1 | apply IsS142.set_2 | apply IsS142.put_0 (hx_ := ⟨HR0.out, HC0.out⟩) | refine IsS142.far ?_ NB330_329.out _ | refine IsS142.far ?_ NB330_334.out _) | exact HI330.out)) hb); have n4_ := aM (bS (by repeat (first | (with_reducible first | exact HB.out | apply below_alloc | apply pw_below_drewN | apply below_drew1 | refine below_set ?_ (IsS142.ge HI330.out) | refine below_set ?_ GE329.out | refine below_set ?_ GE334.out) | exact HB.out)) hb); clear BK329 BK334; clear HI330 HB; have HO358 := n0_; have BK329 := n1_; have BK334 := n2_; have HI330 := n3_; have HB := n4_; clear n0_ n1_ n2_ n3_ n4_; (try clear hb); (try clear ho0); obtain ⟨ASz70_0, cSz70_0, HGz70, hgz70, HSz70_0⟩ := HI330.out; have hcz70_0 := cellS142_0 HGz70; have hcz70_1 := cellS142_1 HGz70; have hcz70_2 := cellS142_2 HGz70; have hfz70_0 := bF HGz70 0; have hfz70_1 := bF HGz70 1; have hfz70_2 := bF HGz70 2; clear HGz70 hgz70; obtain ⟨Ao71, co71, eo71⟩ := Kd.R_slice HO358.out; subst eo71; obtain ⟨i072, hi072, _, hsz72, _⟩ := info_parts info5; obtain ⟨A72, hcut72, hA72, hC72⟩ := print_drop_of (P := Try.prog) (Value.int .u8) 0 22 5 .i64 Try.underlying22 hi072 hsz72 A0 c0 l0 a1 (of_decide_eq_true (by first | (with_reducible assumption) | assumption)) (of_decide_eq_true (by first | (with_reducible assumption) | assumption)) HC0.out; have HR359 := aM (Kd.C_of_reads (h1 := fun _ => rfl) (hA72 _ (Kd.reads_of_C HR0.out))); have HC359 := aM hC72; clear hA72 hC72 hi072 hsz72; obtain ⟨tk72, hTK72⟩ : ∃ t_, t_ = (l0.drop (a1 : Int).toNat) := ⟨_, rfl⟩; rw [← hTK72] at hcut72; rw [← hTK72] at HR359; rw [← hTK72] at HC359; rw [← hTK72] at A64; clear hTK72) | (go_at_call 116; (with_reducible refine (bytes_HasPrefix.calls _ _ tk72 _ _ t356 true _ ?side1 ?side2 ?side3 ?side4 A64.out).mono ?_); (case side1 => repeat (first | exact (cB HR359.out HB.out) | (with_reducible refine Kd.C_alloc ?_ _) | (with_reducible refine Kd.C_drewN ?_ _) | (with_reducible refine Kd.C_drew ?_))); (case side2 => exact HC359.out); (case side3 => repeat (first | exact (Kd.R_reads' HO358.out).2.2 | (with_reducible refine Kd.C_alloc ?_ _) | (with_reducible refine Kd.C_drewN ?_ _) | (with_reducible refine Kd.C_drew ?_))); (case side4 => exact (Kd.R_reads' HO358.out).2.1); rintro e w' ⟨rfl, ⟨nd, rfl⟩⟩; (try (rw [drewN_self w69]; generalize hq_ : World.drewN w69 _ = w69; have n0_ : Aside0 (Kd.R (Kd.int .u8) 5 w69 w.heap.size (fun _ => True) (.slice Ao71 t356.length co71) t356) := ⟨by rw [← hq_]; exact (kr HO358.out)⟩; have n1_ : Aside0 (w69.heap[gb329]? = some (.cells #[.int .i64 0, .int .i64 0, .int .i64 0, .int .i64 0, .int .i64 0, .int .i64 0, .int .i64 0, .bool false] 82 (0, 0))) := ⟨by rw [← hq_]; exact (bk BK329.out)⟩; have n2_ : Aside0 (w69.heap[gb334]? = some (.cells #[.int .i64 t331, .int .i64 t335, .int .i64 x335002_9, .int .i64 x335003_9, .int .i64 x335004_9, .int .i64 x335005_9, .int .i64 x335006_9, .bool x335007_9] 82 (0, 0))) := ⟨by rw [← hq_]; exact (bk BK334.out)⟩; have n3_ : Aside0 (IsS142 w w69 gb330 l0 t336 false) := ⟨by rw [← hq_]; exact (by repeat (first | (with_reducible first | exact HI330.out | apply IsS142.alloc | apply IsS142.drewN | apply IsS142.drew | apply IsS142.set_1 | apply IsS142.set_2 | apply IsS142.put_0 (hx_ := ⟨HR0.out, HC0.out⟩) | refine IsS142.far ?_ NB330_329.out _ | refine IsS142.far ?_ NB330_334.out _) | exact HI330.out))⟩; have n4_ : Aside0 (Below w.heap.size w w69) := ⟨by rw [← hq_]; exact (by repeat (first | (with_reducible first | exact HB.out | apply below_alloc | apply pw_below_drewN | apply below_drew1 | refine below_set ?_ (IsS142.ge HI330.out) | refine below_set ?_ GE329.out | refine below_set ?_ GE334.out) | exact HB.out))⟩; clear HO358 BK329 BK334 HI330 HB hq_; have HO358 := n0_; have BK329 := n1_; have BK334 := n2_; have HI330 := n3_; have HB := n4_; clear n0_ n1_ n2_ n3_ n4_)); have hcz73_0 := cI BK334.out 0; have hcz73_1 := cI BK334.out 1; have hcz73_2 := cI BK334.out 2; have hcz73_3 := cI BK334.out 3; have hcz73_4 := cI BK334.out 4; have hcz73_5 := cI BK334.out 5; have hcz73_6 := cI BK334.out 6; have hcz73_7 := cI BK334.out 7; have hfz73_0 := bF BK334.out 0; have hfz73_1 := bF BK334.out 1; have hfz73_2 := bF BK334.out 2; have hfz73_3 := bF BK334.out 3; have hfz73_4 := bF BK334.out 4; have hfz73_5 := bF BK334.out 5; have hfz73_6 := bF BK334.out 6; have hfz73_7 := bF BK334.out 7; have hnb74 := NB329_330.out; have hnc74 := NB330_329.out; have hcz75_0 := cI BK329.out 0; have hcz75_1 := cI BK329.out 1; have hcz75_2 := cI BK329.out 2; have hcz75_3 := cI BK329.out 3; have hcz75_4 := cI BK329.out 4; have hcz75_5 := cI BK329.out 5; have hcz75_6 := cI BK329.out 6; have hcz75_7 := cI BK329.out 7; have hfz75_0 := bF BK329.out 0; have hfz75_1 := bF BK329.out 1; have hfz75_2 := bF BK329.out 2; have hfz75_3 := bF BK329.out 3; have hfz75_4 := bF BK329.out 4; have hfz75_5 := bF BK329.out 5; have hfz75_6 := bF BK329.out 6; have hfz75_7 := bF BK329.out 7))
      refine bodyPost_ret (results_ctt rfl _ _ gb329 82 #[.int .i64 t331, .int .i64 t335, .int .i64 x335002_9, .int .i64 x335003_9, .int .i64 x335004_9, .int .i64 x335005_9, .int .i64 x335006_9, .bool x335007_9] (0, 0) _ rfl (by (with_reducible repeat (first | refine blk_drewN ?_ _ | refine blk_drew ?_ | refine blk_alloc ?_ _)); refine blk_put (cs := #[.int .i64 t331, .int .i64 t335, .int .i64 x335002_9, .int .i64 x335003_9, .int .i64 x335004_9, .int .i64 x335005_9, .int .i64 x335006_9, .bool false]) ?_ 7 _ rfl; (with_reducible repeat (first | refine blk_drewN ?_ _ | refine blk_drew ?_ | refine blk_alloc ?_ _)); refine blk_put (cs := #[.int .i64 t331, .int .i64 t335, .int .i64 x335002_9, .int .i64 x335003_9, .int .i64 x335004_9, .int .i64 x335005_9, .int .i64 0, .bool false]) ?_ 6 _ rfl; (with_reducible repeat (first | refine blk_drewN ?_ _ | refine blk_drew ?_ | refine blk_alloc ?_ _)); refine blk_put (cs := #[.int .i64 t331, .int .i64 t335, .int .i64 x335002_9, .int .i64 x335003_9, .int .i64 x335004_9, .int .i64 0, .int .i64 0, .bool false]) ?_ 5 _ rfl; (with_reducible repeat (first | refine blk_drewN ?_ _ | refine blk_drew ?_ | refine blk_alloc ?_ _)); refine blk_put (cs := #[.int .i64 t331, .int .i64 t335, .int .i64 x335002_9, .int .i64 x335003_9, .int .i64 0, .int .i64 0, .int .i64 0, .bool false]) ?_ 4 _ rfl; (with_reducible repeat (first | refine blk_drewN ?_ _ | refine blk_drew ?_ | refine blk_alloc ?_ _)); refine blk_put (cs := #[.int .i64 t331, .int .i64 t335, .int .i64 x335002_9, .int .i64 0, .int .i64 0, .int .i64 0, .int .i64 0, .bool false]) ?_ 3 _ rfl; (with_reducible repeat (first | refine blk_drewN ?_ _ | refine blk_drew ?_ | refine blk_alloc ?_ _)); refine blk_put (cs := #[.int .i64 t331, .int .i64 t335, .int .i64 0, .int .i64 0, .int .i64 0, .int .i64 0, .int .i64 0, .bool false]) ?_ 2 _ rfl; (with_reducible repeat (first | refine blk_drewN ?_ _ | refine blk_drew ?_ | refine blk_alloc ?_ _)); refine blk_put (cs := #[.int .i64 t331, .int .i64 0, .int .i64 0, .int .i64 0, .int .i64 0, .int .i64 0, .int .i64 0, .bool false]) ?_ 1 _ rfl; (with_reducible repeat (first | refine blk_drewN ?_ _ | refine blk_drew ?_ | refine blk_alloc ?_ _)); refine blk_put (cs := #[.int .i64 0, .int .i64 0, .int .i64 0, .int .i64 0, .int .i64 0, .int .i64 0, .int .i64 0, .bool false]) ?_ 0 _ rfl; (with_reducible repeat (first | refine blk_drewN ?_ _ | refine blk_drew ?_ | refine blk_alloc ?_ _)); exact BK329.out) Try.underlying82 rfl (by kernel_rfl)) rfl ?_
      exact ⟨xW, by repeat (first | (with_reducible first | exact HB.out | apply below_alloc | apply pw_below_drewN | apply below_drew1 | refine below_set ?_ (IsS142.ge HI330.out) | refine below_set ?_ GE329.out | refine below_set ?_ GE334.out) | exact HB.out)⟩
     replace c65 := Bool.eq_false_iff.mpr c65
     subst c65
     have H1 : (some (0, 0, 0, 0, 0, 0, 0, false, 0, false)) = some (r1, r2, r3, r4, r5, r6, r7, r8, r9, r10) := by rw [if_neg (show ¬ (false = true) by decide)] at H; exact H
     clear H
     have H := H1
     clear H1
     simp only [Option.some.injEq, Prod.mk.injEq] at H
     obtain ⟨rfl, rfl, rfl, rfl, rfl, rfl, rfl, rfl, rfl, rfl⟩ := H
     have hnb76 := NB334_329.out
     have hnc76 := NB329_334.out
     have hnb77 := NB334_330.out
     have hnc77 := NB330_334.out
     have hcz78_0 := cI BK334.out 0
     have hcz78_1 := cI BK334.out 1
     have hcz78_2 := cI BK334.out 2
     have hcz78_3 := cI BK334.out 3
     have hcz78_4 := cI BK334.out 4
     have hcz78_5 := cI BK334.out 5
     have hcz78_6 := cI BK334.out 6
     have hcz78_7 := cI BK334.out 7
     have hfz78_0 := bF BK334.out 0
     have hfz78_1 := bF BK334.out 1
     have hfz78_2 := bF BK334.out 2
     have hfz78_3 := bF BK334.out 3
     have hfz78_4 := bF BK334.out 4
     have hfz78_5 := bF BK334.out 5
     have hfz78_6 := bF BK334.out 6
     have hfz78_7 := bF BK334.out 7
     go_wp2_with (first | ((with_reducible refine gate_callee (f := 98) rfl ?_); refine goesL_ (some 50) rfl rfl Try.func98 (by kernel_rfl) rfl #[.agg #[.int .i64 t331, .int .i64 t335, .int .i64 x335002_9, .int .i64 x335003_9, .int .i64 x335004_9, .int .i64 x335005_9, .int .i64 x335006_9, .bool x335007_9]] rfl xR ?_; (with_reducible refine (impl_InBytes.calls kj9 t331 t335 x335002_9 x335003_9 x335004_9 x335005_9 x335006_9 x335007_9 t356 _ A44.out).mono ?_); rintro e w79 ⟨v357, rfl, ho0, hb⟩; refine ⟨_, rfl, ?_⟩; have n0_ := aM (Kd.R_lower ho0 (below_size (by repeat (first | (with_reducible first | exact HB.out | apply below_alloc | apply pw_below_drewN | apply below_drew1 | refine below_set ?_ (IsS142.ge HI330.out) | refine below_set ?_ GE329.out | refine below_set ?_ GE334.out) | exact HB.out)))); have n1_ := aM (bB (g := gb329) (o := .cells #[.int .i64 0, .int .i64 0, .int .i64 0, .int .i64 0, .int .i64 0, .int .i64 0, .int .i64 0, .bool false] 82 (0, 0)) (bk BK329.out) hb); have n2_ := aM (bB (g := gb334) (o := .cells #[.int .i64 t331, .int .i64 t335, .int .i64 x335002_9, .int .i64 x335003_9, .int .i64 x335004_9, .int .i64 x335005_9, .int .i64 x335006_9, .bool x335007_9] 82 (0, 0)) (bk BK334.out) hb); have n3_ := aM (IsS142.below (by repeat (first | (with_reducible first | exact HI330.out | apply IsS142.alloc | apply IsS142.drewN | apply IsS142.drew | apply IsS142.set_1 | apply IsS142.set_2 | apply IsS142.put_0 (hx_ := ⟨HR0.out, HC0.out⟩) | refine IsS142.far ?_ NB330_329.out _ | refine IsS142.far ?_ NB330_334.out _) | exact HI330.out)) hb); have n4_ := aM (bS (by repeat (first | (with_reducible first | exact HB.out | apply below_alloc | apply pw_below_drewN | apply below_drew1 | refine below_set ?_ (IsS142.ge HI330.out) | refine below_set ?_ GE329.out | refine below_set ?_ GE334.out) | exact HB.out)) hb); clear BK329 BK334; clear HI330 HB; have HO358 := n0_; have BK329 := n1_; have BK334 := n2_; have HI330 := n3_; have HB := n4_; clear n0_ n1_ n2_ n3_ n4_; (try clear hb); (try clear ho0); obtain ⟨ASz80_0, cSz80_0, HGz80, hgz80, HSz80_0⟩ := HI330.out; have hcz80_0 := cellS142_0 HGz80; have hcz80_1 := cellS142_1 HGz80; have hcz80_2 := cellS142_2 HGz80; have hfz80_0 := bF HGz80 0; have hfz80_1 := bF HGz80 1; have hfz80_2 := bF HGz80 2; clear HGz80 hgz80; obtain ⟨Ao81, co81, eo81⟩ := Kd.R_slice HO358.out; subst eo81; obtain ⟨i082, hi082, _, hsz82, _⟩ := info_parts info5; obtain ⟨A82, hcut82, hA82, hC82⟩ := print_drop_of (P := Try.prog) (Value.int .u8) 0 22 5 .i64 Try.underlying22 hi082 hsz82 A0 c0 l0 a1 (of_decide_eq_true (by first | (with_reducible assumption) | assumption)) (of_decide_eq_true (by first | (with_reducible assumption) | assumption)) HC0.out; have HR359 := aM (Kd.C_of_reads (h1 := fun _ => rfl) (hA82 _ (Kd.reads_of_C HR0.out))); have HC359 := aM hC82; clear hA82 hC82 hi082 hsz82; obtain ⟨tk82, hTK82⟩ : ∃ t_, t_ = (l0.drop (a1 : Int).toNat) := ⟨_, rfl⟩; rw [← hTK82] at hcut82; rw [← hTK82] at HR359; rw [← hTK82] at HC359; rw [← hTK82] at A64; clear hTK82) | (go_at_call 116; (with_reducible refine (bytes_HasPrefix.calls _ _ tk82 _ _ t356 false _ ?side1 ?side2 ?side3 ?side4 A64.out).mono ?_); (case side1 => repeat (first | exact (cB HR359.out HB.out) | (with_reducible refine Kd.C_alloc ?_ _) | (with_reducible refine Kd.C_drewN ?_ _) | (with_reducible refine Kd.C_drew ?_))); (case side2 => exact HC359.out); (case side3 => repeat (first | exact (Kd.R_reads' HO358.out).2.2 | (with_reducible refine Kd.C_alloc ?_ _) | (with_reducible refine Kd.C_drewN ?_ _) | (with_reducible refine Kd.C_drew ?_))); (case side4 => exact (Kd.R_reads' HO358.out).2.1); rintro e w' ⟨rfl, ⟨nd, rfl⟩⟩; (try (rw [drewN_self w79]; generalize hq_ : World.drewN w79 _ = w79; have n0_ : Aside0 (Kd.R (Kd.int .u8) 5 w79 w.heap.size (fun _ => True) (.slice Ao81 t356.length co81) t356) := ⟨by rw [← hq_]; exact (kr HO358.out)⟩; have n1_ : Aside0 (w79.heap[gb329]? = some (.cells #[.int .i64 0, .int .i64 0, .int .i64 0, .int .i64 0, .int .i64 0, .int .i64 0, .int .i64 0, .bool false] 82 (0, 0))) := ⟨by rw [← hq_]; exact (bk BK329.out)⟩; have n2_ : Aside0 (w79.heap[gb334]? = some (.cells #[.int .i64 t331, .int .i64 t335, .int .i64 x335002_9, .int .i64 x335003_9, .int .i64 x335004_9, .int .i64 x335005_9, .int .i64 x335006_9, .bool x335007_9] 82 (0, 0))) := ⟨by rw [← hq_]; exact (bk BK334.out)⟩; have n3_ : Aside0 (IsS142 w w79 gb330 l0 t336 false) := ⟨by rw [← hq_]; exact (by repeat (first | (with_reducible first | exact HI330.out | apply IsS142.alloc | apply IsS142.drewN | apply IsS142.drew | apply IsS142.set_1 | apply IsS142.set_2 | apply IsS142.put_0 (hx_ := ⟨HR0.out, HC0.out⟩) | refine IsS142.far ?_ NB330_329.out _ | refine IsS142.far ?_ NB330_334.out _) | exact HI330.out))⟩; have n4_ : Aside0 (Below w.heap.size w w79) := ⟨by rw [← hq_]; exact (by repeat (first | (with_reducible first | exact HB.out | apply below_alloc | apply pw_below_drewN | apply below_drew1 | refine below_set ?_ (IsS142.ge HI330.out) | refine below_set ?_ GE329.out | refine below_set ?_ GE334.out) | exact HB.out))⟩; clear HO358 BK329 BK334 HI330 HB hq_; have HO358 := n0_; have BK329 := n1_; have BK334 := n2_; have HI330 := n3_; have HB := n4_; clear n0_ n1_ n2_ n3_ n4_)); have hnb83 := NB329_330.out; have hnc83 := NB330_329.out; have hcz84_0 := cI BK329.out 0; have hcz84_1 := cI BK329.out 1; have hcz84_2 := cI BK329.out 2; have hcz84_3 := cI BK329.out 3; have hcz84_4 := cI BK329.out 4; have hcz84_5 := cI BK329.out 5; have hcz84_6 := cI BK329.out 6; have hcz84_7 := cI BK329.out 7; have hfz84_0 := bF BK329.out 0; have hfz84_1 := bF BK329.out 1; have hfz84_2 := bF BK329.out 2; have hfz84_3 := bF BK329.out 3; have hfz84_4 := bF BK329.out 4; have hfz84_5 := bF BK329.out 5; have hfz84_6 := bF BK329.out 6; have hfz84_7 := bF BK329.out 7))
     refine bodyPost_ret (results_ctt rfl _ _ gb329 82 #[.int .i64 0, .int .i64 0, .int .i64 0, .int .i64 0, .int .i64 0, .int .i64 0, .int .i64 0, .bool false] (0, 0) _ rfl (by (with_reducible repeat (first | refine blk_drewN ?_ _ | refine blk_drew ?_ | refine blk_alloc ?_ _)); refine blk_put (cs := #[.int .i64 0, .int .i64 0, .int .i64 0, .int .i64 0, .int .i64 0, .int .i64 0, .int .i64 0, .bool false]) ?_ 7 _ rfl; (with_reducible repeat (first | refine blk_drewN ?_ _ | refine blk_drew ?_ | refine blk_alloc ?_ _)); refine blk_put (cs := #[.int .i64 0, .int .i64 0, .int .i64 0, .int .i64 0, .int .i64 0, .int .i64 0, .int .i64 0, .bool false]) ?_ 6 _ rfl; (with_reducible repeat (first | refine blk_drewN ?_ _ | refine blk_drew ?_ | refine blk_alloc ?_ _)); refine blk_put (cs := #[.int .i64 0, .int .i64 0, .int .i64 0, .int .i64 0, .int .i64 0, .int .i64 0, .int .i64 0, .bool false]) ?_ 5 _ rfl; (with_reducible repeat (first | refine blk_drewN ?_ _ | refine blk_drew ?_ | refine blk_alloc ?_ _)); refine blk_put (cs := #[.int .i64 0, .int .i64 0, .int .i64 0, .int .i64 0, .int .i64 0, .int .i64 0, .int .i64 0, .bool false]) ?_ 4 _ rfl; (with_reducible repeat (first | refine blk_drewN ?_ _ | refine blk_drew ?_ | refine blk_alloc ?_ _)); refine blk_put (cs := #[.int .i64 0, .int .i64 0, .int .i64 0, .int .i64 0, .int .i64 0, .int .i64 0, .int .i64 0, .bool false]) ?_ 3 _ rfl; (with_reducible repeat (first | refine blk_drewN ?_ _ | refine blk_drew ?_ | refine blk_alloc ?_ _)); refine blk_put (cs := #[.int .i64 0, .int .i64 0, .int .i64 0, .int .i64 0, .int .i64 0, .int .i64 0, .int .i64 0, .bool false]) ?_ 2 _ rfl; (with_reducible repeat (first | refine blk_drewN ?_ _ | refine blk_drew ?_ | refine blk_alloc ?_ _)); refine blk_put (cs := #[.int .i64 0, .int .i64 0, .int .i64 0, .int .i64 0, .int .i64 0, .int .i64 0, .int .i64 0, .bool false]) ?_ 1 _ rfl; (with_reducible repeat (first | refine blk_drewN ?_ _ | refine blk_drew ?_ | refine blk_alloc ?_ _)); refine blk_put (cs := #[.int .i64 0, .int .i64 0, .int .i64 0, .int .i64 0, .int .i64 0, .int .i64 0, .int .i64 0, .bool false]) ?_ 0 _ rfl; (with_reducible repeat (first | refine blk_drewN ?_ _ | refine blk_drew ?_ | refine blk_alloc ?_ _)); exact BK329.out) Try.underlying82 rfl (by kernel_rfl)) rfl ?_
     exact ⟨xW, by repeat (first | (with_reducible first | exact HB.out | apply below_alloc | apply pw_below_drewN | apply below_drew1 | refine below_set ?_ (IsS142.ge HI330.out) | refine below_set ?_ GE329.out | refine below_set ?_ GE334.out) | exact HB.out)⟩

def impl_AllOf.l0 : Nat → List Int → List (S82) → Int → Option ((List (S82)) × Int)
 | 0, _, _, _ => none
 | k + 1, x0, x4, x5 => (impl_InOf.f k x0 x5).bind fun bt361 => (if bt361.2.2.2.2.2.2.2.2.2 = true then (if x4.length < 2199023255552 then (impl_AllOf.l0 k x0 (x4 ++ [(⟨bt361.1, bt361.2.1, (⟨bt361.2.2.1, bt361.2.2.2.1, bt361.2.2.2.2.1, bt361.2.2.2.2.2.1⟩ : S42), bt361.2.2.2.2.2.2.1, bt361.2.2.2.2.2.2.2.1⟩ : S82)]) bt361.2.2.2.2.2.2.2.2.1) else (none)) else (some (x4, x5)))
def impl_AllOf.f (k : Nat) (l0 : List Int) : Option ((List (S82)) × Int) := impl_AllOf.l0 k l0 ([] : List (S82)) 0
theorem impl_AllOf.mono_l : ∀ k, (∀ y0 y1 y2, LeO (impl_AllOf.l0 k y0 y1 y2) (impl_AllOf.l0 (k + 1) y0 y1 y2))
 | 0 => fun _ _ _ r h => by simp [impl_AllOf.l0] at h
 | k + 1 => by
  have ih0 := impl_AllOf.mono_l k
  ·intro y0 y1 y2
   unfold impl_AllOf.l0
   repeat' first
   | (with_reducible exact ih0 _ _ _)
   | (with_reducible exact impl_InOf.mono _ _ _)
   | (with_reducible exact LeO.refl _)
   | (with_reducible exact LeO.none _)
   | (with_reducible refine LeO.ite ?_ ?_)
   | (with_reducible refine LeO.bind ?_ (fun _ => ?_))
   | exact ih0 _ _ _
   | exact impl_InOf.mono _ _ _
   | exact LeO.none _
   | refine LeO.ite ?_ ?_
   | refine LeO.bind ?_ (fun _ => ?_)
theorem impl_AllOf.mono : ∀ a0 k, LeO (impl_AllOf.f k a0) (impl_AllOf.f (k + 1) a0) := by
 intro a0 k
 have ih0 := impl_AllOf.mono_l k
 unfold impl_AllOf.f
 repeat' first
   | (with_reducible exact ih0 _ _ _)
   | (with_reducible exact impl_InOf.mono _ _ _)
   | (with_reducible exact LeO.refl _)
   | (with_reducible exact LeO.none _)
   | (with_reducible refine LeO.ite ?_ ?_)
   | (with_reducible refine LeO.bind ?_ (fun _ => ?_))
   | exact ih0 _ _ _
   | exact impl_InOf.mono _ _ _
   | exact LeO.none _
   | refine LeO.ite ?_ ?_
   | refine LeO.bind ?_ (fun _ => ?_)
set_option maxHeartbeats 60000000 in
set_option maxRecDepth 100000 in
theorem impl_AllOf.calls (k : Nat) (A0 : Option Addr) (c0 : Nat) (l0 : List Int) (r1 : List (S82)) (r2 : Int) (w : World) (hr0 : Kd.C (Kd.int .u8) w A0 l0.length l0) (hc0 : l0.length ≤ c0) (h : impl_AllOf.f k l0 = some (r1, r2)) :
  Calls Try.prog 63 #[.slice A0 l0.length c0] w fun e w' => ∃ v0_ : Value, e = .returned (.tuple #[v0_, .int .i64 r2]) ∧ Kd.R k82 82 w' w.heap.size (fun _ => True) v0_ r1 ∧ Below w.heap.size w w' := by
 have hu82 := Try.underlying82
 have HR0 := aM hr0
 have HC0 := aM hc0
 clear hr0 hc0
 have HB := aM (Below.refl w.heap.size w)
 have H : (impl_AllOf.l0 k l0 ([] : List (S82)) 0) = some (r1, r2) := h
 clear h
 have H' := aM H
 clear H
 go_enter Try.func63, Try.ntmps63
 go_wp2
 go_loopg [4, 5] k (fun kq v4 v5 w' => ∃ (x4_1 : List (S82)) (x5_1 : Int), v5 = .int .i64 x5_1 ∧ Aside0 (impl_AllOf.l0 kq l0 x4_1 x5_1 = some (r1, r2)) ∧ Aside0 (kq ≤ k) ∧ Aside0 (Kd.R k82 82 w' w.heap.size (fun _ => True) v4 x4_1) ∧ Aside0 (Below w.heap.size w w'))
 case atStart => exact ⟨(([] : List (S82))), (0), xE, H', ⟨Nat.le_refl _⟩, ⟨by first | exact Kd.R_nil _ _ _ _ _ | exact Kd.N_nil _ _ _ _ _ | exact Kd.V_nil _ _ _ _ _ | exact Kd.Q_nil _ _ _ _ _ | exact Kd.S_nil _ _ _ _ _⟩, ⟨bl HB.out⟩⟩
 case round =>
  clear H'
  obtain ⟨x4_1, x5_1, rfl, HA, HK1, HO_4, HB⟩ := hrel
  cases gk with
  | zero => exact absurd HA.out (by simp [impl_AllOf.l0])
  | succ k1 =>
   have H := HA.out
   clear HA
   simp only [impl_AllOf.l0] at H
   replace H := Option.bind_eq_some_iff.mp H
   obtain ⟨⟨t361, t362, t363, t364, t365, t366, t367, t368, t369, t370⟩, A20, H⟩ := H
   replace H : (if t370 = true then (if x4_1.length < 2199023255552 then (impl_AllOf.l0 k1 l0 (x4_1 ++ [(⟨t361, t362, (⟨t363, t364, t365, t366⟩ : S42), t367, t368⟩ : S82)]) t369) else (none)) else (some (x4_1, x5_1))) = some (r1, r2) := H
   have A2 := aM A20
   clear A20
   by_cases c3 : t370 = true
   case neg =>
    replace c3 := Bool.eq_false_iff.mpr c3
    subst c3
    have H1 : (some (x4_1, x5_1)) = some (r1, r2) := by rw [if_neg (show ¬ (false = true) by decide)] at H; exact H
    clear H
    have H := H1
    clear H1
    simp only [Option.some.injEq, Prod.mk.injEq] at H
    obtain ⟨rfl, rfl⟩ := H
    go_wp2_with (first | ((with_reducible refine gate_callee (f := 60) rfl ?_); refine goesL_ (some 12) rfl rfl Try.func60 (by kernel_rfl) rfl #[.slice A0 l0.length c0, .int .i64 x5_1] rfl xR ?_; (with_reducible refine (impl_InOf.calls k1 _ _ l0 x5_1 t361 t362 t363 t364 t365 t366 t367 t368 t369 false _ ?side1 ?side2 A2.out).mono ?_); (case side1 => repeat (first | exact (cB HR0.out HB.out) | (with_reducible refine Kd.C_alloc ?_ _) | (with_reducible refine Kd.C_drewN ?_ _) | (with_reducible refine Kd.C_drew ?_))); (case side2 => exact HC0.out); rintro e w9 ⟨rfl, hb⟩; refine ⟨_, rfl, ?_⟩; have n0_ := aM (kB (kr HO_4.out) hb); have n1_ := aM (bS (bl HB.out) hb); clear HO_4 HB; have HO_4 := n0_; have HB := n1_; clear n0_ n1_; (try clear hb)) | ((with_reducible refine gate_dst (N := 6) rfl ?_); refine box_event ?hg (N := 6) ?hd (cs := #[.int .i64 0, .int .i64 0, .int .i64 0, .int .i64 0, .int .i64 0, .int .i64 0, .int .i64 0, .bool false]) (t := 82) ?hr ?_; (case hd => rfl); (case hg => rfl); (case hr => first | (go_simp; done) | (go_simp; rfl) | (obtain ⟨A_, c_, e_⟩ := Kd.R_slice HO_4.out; subst e_; (first | (go_simp; done) | (go_simp; rfl))) | (obtain ⟨A_, c_, e_⟩ := Kd.S_slice HO_4.out; subst e_; (first | (go_simp; done) | (go_simp; rfl)))); intro gb371 hg w10 hbox hb; have n0_ := aM (kB (Kd.R_elderB (kr HO_4.out) gb371 (Nat.le_of_eq hg.symm)) hb); have n1_ := aM (bS (bl HB.out) hb); have n2_ := aM (hbox); have n3_ := aM ((by rw [hg]; exact (below_size (bl HB.out)) : w.heap.size ≤ gb371)); have n4_ := aM ((by rw [hg]; exact (below_size (bl HB.out)) : w.heap.size ≤ gb371)); clear HO_4 HB; have HO_4 := n0_; have HB := n1_; have BK371 := n2_; have GW371 := n3_; have GE371 := n4_; clear n0_ n1_ n2_ n3_ n4_; clear hb hbox hg; have hcz11_0 := cI BK371.out 0; have hcz11_1 := cI BK371.out 1; have hcz11_2 := cI BK371.out 2; have hcz11_3 := cI BK371.out 3; have hcz11_4 := cI BK371.out 4; have hcz11_5 := cI BK371.out 5; have hcz11_6 := cI BK371.out 6; have hcz11_7 := cI BK371.out 7; have hfz11_0 := bF BK371.out 0; have hfz11_1 := bF BK371.out 1; have hfz11_2 := bF BK371.out 2; have hfz11_3 := bF BK371.out 3; have hfz11_4 := bF BK371.out 4; have hfz11_5 := bF BK371.out 5; have hfz11_6 := bF BK371.out 6; have hfz11_7 := bF BK371.out 7))
    go_ret2
    exact ⟨_, xW, by (with_reducible repeat (first | apply Kd.R_alloc | apply Kd.R_drewN | apply Kd.R_drew)); exact Kd.R_mono (kF (p := ⟨gb371, 7, none⟩) (kF (p := ⟨gb371, 6, none⟩) (kF (p := ⟨gb371, 5, none⟩) (kF (p := ⟨gb371, 4, none⟩) (kF (p := ⟨gb371, 3, none⟩) (kF (p := ⟨gb371, 2, none⟩) (kF (p := ⟨gb371, 1, none⟩) (kF (p := ⟨gb371, 0, none⟩) (Kd.R_mono HO_4.out (fun k_ hk => (⟨hk, hk.2⟩ : _ ∧ k_ ≠ gb371))) (fun _ hk => hk.2) (.int .i64 t361)) (fun _ hk => hk.2) (.int .i64 t362)) (fun _ hk => hk.2) (.int .i64 t363)) (fun _ hk => hk.2) (.int .i64 t364)) (fun _ hk => hk.2) (.int .i64 t365)) (fun _ hk => hk.2) (.int .i64 t366)) (fun _ hk => hk.2) (.int .i64 t367)) (fun _ hk => hk.2) (.bool t368)) (fun _ hk => trivial), bl HB.out⟩
   subst c3
   have H1 : (if x4_1.length < 2199023255552 then (impl_AllOf.l0 k1 l0 (x4_1 ++ [(⟨t361, t362, (⟨t363, t364, t365, t366⟩ : S42), t367, t368⟩ : S82)]) t369) else (none)) = some (r1, r2) := by rw [if_pos rfl] at H; exact H
   clear H
   have H := H1
   clear H1
   by_cases c4 : x4_1.length < 2199023255552
   case neg =>
    rw [if_neg c4] at H
    exact absurd H (by simp)
   rw [if_pos c4] at H
   have LMc4 := aM c4
   clear c4
   obtain ⟨y372, hy372⟩ : ∃ y_ : List (S82), y_ = (x4_1 ++ [(⟨t361, t362, (⟨t363, t364, t365, t366⟩ : S42), t367, t368⟩ : S82)]) := ⟨_, rfl⟩
   replace H : (impl_AllOf.l0 k1 l0 y372 t369) = some (r1, r2) := by first | (rw [hy372]; with_reducible exact H) | (have H2_ := (Option.bind_some _ _).symm.trans H; rw [hy372]; with_reducible exact H2_) | (have H2_ := (Option.bind_some _ _).symm.trans H; with_reducible exact H2_) | with_reducible exact H | (rw [hy372]; exact H) | exact H
   have Ny372 := aM hy372
   clear hy372
   have H' := aM H
   clear H
   go_wp2_with (first | ((with_reducible refine gate_callee (f := 60) rfl ?_); refine goesL_ (some 12) rfl rfl Try.func60 (by kernel_rfl) rfl #[.slice A0 l0.length c0, .int .i64 x5_1] rfl xR ?_; (with_reducible refine (impl_InOf.calls k1 _ _ l0 x5_1 t361 t362 t363 t364 t365 t366 t367 t368 t369 true _ ?side1 ?side2 A2.out).mono ?_); (case side1 => repeat (first | exact (cB HR0.out HB.out) | (with_reducible refine Kd.C_alloc ?_ _) | (with_reducible refine Kd.C_drewN ?_ _) | (with_reducible refine Kd.C_drew ?_))); (case side2 => exact HC0.out); rintro e w5 ⟨rfl, hb⟩; refine ⟨_, rfl, ?_⟩; have n0_ := aM (kB (kr HO_4.out) hb); have n1_ := aM (bS (bl HB.out) hb); clear HO_4 HB; have HO_4 := n0_; have HB := n1_; clear n0_ n1_; (try clear hb)) | ((with_reducible refine gate_dst (N := 6) rfl ?_); refine box_event ?hg (N := 6) ?hd (cs := #[.int .i64 0, .int .i64 0, .int .i64 0, .int .i64 0, .int .i64 0, .int .i64 0, .int .i64 0, .bool false]) (t := 82) ?hr ?_; (case hd => rfl); (case hg => rfl); (case hr => first | (go_simp; done) | (go_simp; rfl) | (obtain ⟨A_, c_, e_⟩ := Kd.R_slice HO_4.out; subst e_; (first | (go_simp; done) | (go_simp; rfl))) | (obtain ⟨A_, c_, e_⟩ := Kd.S_slice HO_4.out; subst e_; (first | (go_simp; done) | (go_simp; rfl)))); intro gb371 hg w6 hbox hb; have n0_ := aM (kB (Kd.R_elderB (kr HO_4.out) gb371 (Nat.le_of_eq hg.symm)) hb); have n1_ := aM (bS (bl HB.out) hb); have n2_ := aM (hbox); have n3_ := aM ((by rw [hg]; exact (below_size (bl HB.out)) : w.heap.size ≤ gb371)); have n4_ := aM ((by rw [hg]; exact (below_size (bl HB.out)) : w.heap.size ≤ gb371)); clear HO_4 HB; have HO_4 := n0_; have HB := n1_; have BK371 := n2_; have GW371 := n3_; have GE371 := n4_; clear n0_ n1_ n2_ n3_ n4_; clear hb hbox hg; have hcz7_0 := cI BK371.out 0; have hcz7_1 := cI BK371.out 1; have hcz7_2 := cI BK371.out 2; have hcz7_3 := cI BK371.out 3; have hcz7_4 := cI BK371.out 4; have hcz7_5 := cI BK371.out 5; have hcz7_6 := cI BK371.out 6; have hcz7_7 := cI BK371.out 7; have hfz7_0 := bF BK371.out 0; have hfz7_1 := bF BK371.out 1; have hfz7_2 := bF BK371.out 2; have hfz7_3 := bF BK371.out 3; have hfz7_4 := bF BK371.out 4; have hfz7_5 := bF BK371.out 5; have hfz7_6 := bF BK371.out 6; have hfz7_7 := bF BK371.out 7) | ((with_reducible refine gate_builtin (b := .append) (xs := #[.tmp 20, .tmp 22]) rfl ?_); at_builtin; refine Kd.R_append k82 (w0 := w) w.heap.size rfl (.tmp 20) (.tmp 22) 57 82 (.agg #[(.int .i64 0), (.int .i64 0), (.int .i64 0), (.int .i64 0), (.int .i64 0), (.int .i64 0), (.int .i64 0), (.bool false)]) 64 rfl Try.underlying57 info82 rfl (by decide) (by omega) u4 x4_1 (⟨t361, t362, (⟨t363, t364, t365, t366⟩ : S42), t367, t368⟩ : S82) [.int .i64 t361, .int .i64 t362, .int .i64 t363, .int .i64 t364, .int .i64 t365, .int .i64 t366, .int .i64 t367, .bool t368] (fun k_ => k_ ≠ gb371) (fun _ => False) rfl (by first | (go_simp; done) | (go_simp; rfl)) ?aP (fun _ hk => hk.elim) ?aF ?aO ?aB ?aS ?aL ?_; (case aP => exact k82_mkM _ _ _ (⟨t361, t362, (⟨t363, t364, t365, t366⟩ : S42), t367, t368⟩ : S82)); (case aB => exact (bl HB.out)); (case aF => exact (fun k_ hk => Kd.freshB (g := gb371) (o := .cells #[.int .i64 t361, .int .i64 t362, .int .i64 t363, .int .i64 t364, .int .i64 t365, .int .i64 t366, .int .i64 t367, .bool t368] 82 (0, 0)) (by (with_reducible repeat (first | refine blk_drewN ?_ _ | refine blk_drew ?_ | refine blk_alloc ?_ _)); refine blk_put (cs := #[.int .i64 t361, .int .i64 t362, .int .i64 t363, .int .i64 t364, .int .i64 t365, .int .i64 t366, .int .i64 t367, .bool false]) ?_ 7 _ rfl; (with_reducible repeat (first | refine blk_drewN ?_ _ | refine blk_drew ?_ | refine blk_alloc ?_ _)); refine blk_put (cs := #[.int .i64 t361, .int .i64 t362, .int .i64 t363, .int .i64 t364, .int .i64 t365, .int .i64 t366, .int .i64 0, .bool false]) ?_ 6 _ rfl; (with_reducible repeat (first | refine blk_drewN ?_ _ | refine blk_drew ?_ | refine blk_alloc ?_ _)); refine blk_put (cs := #[.int .i64 t361, .int .i64 t362, .int .i64 t363, .int .i64 t364, .int .i64 t365, .int .i64 0, .int .i64 0, .bool false]) ?_ 5 _ rfl; (with_reducible repeat (first | refine blk_drewN ?_ _ | refine blk_drew ?_ | refine blk_alloc ?_ _)); refine blk_put (cs := #[.int .i64 t361, .int .i64 t362, .int .i64 t363, .int .i64 t364, .int .i64 0, .int .i64 0, .int .i64 0, .bool false]) ?_ 4 _ rfl; (with_reducible repeat (first | refine blk_drewN ?_ _ | refine blk_drew ?_ | refine blk_alloc ?_ _)); refine blk_put (cs := #[.int .i64 t361, .int .i64 t362, .int .i64 t363, .int .i64 0, .int .i64 0, .int .i64 0, .int .i64 0, .bool false]) ?_ 3 _ rfl; (with_reducible repeat (first | refine blk_drewN ?_ _ | refine blk_drew ?_ | refine blk_alloc ?_ _)); refine blk_put (cs := #[.int .i64 t361, .int .i64 t362, .int .i64 0, .int .i64 0, .int .i64 0, .int .i64 0, .int .i64 0, .bool false]) ?_ 2 _ rfl; (with_reducible repeat (first | refine blk_drewN ?_ _ | refine blk_drew ?_ | refine blk_alloc ?_ _)); refine blk_put (cs := #[.int .i64 t361, .int .i64 0, .int .i64 0, .int .i64 0, .int .i64 0, .int .i64 0, .int .i64 0, .bool false]) ?_ 1 _ rfl; (with_reducible repeat (first | refine blk_drewN ?_ _ | refine blk_drew ?_ | refine blk_alloc ?_ _)); refine blk_put (cs := #[.int .i64 0, .int .i64 0, .int .i64 0, .int .i64 0, .int .i64 0, .int .i64 0, .int .i64 0, .bool false]) ?_ 0 _ rfl; (with_reducible repeat (first | refine blk_drewN ?_ _ | refine blk_drew ?_ | refine blk_alloc ?_ _)); exact BK371.out) k_ hk)); (case aO => exact (kr (Kd.R_mono (kF (p := ⟨gb371, 7, none⟩) (kF (p := ⟨gb371, 6, none⟩) (kF (p := ⟨gb371, 5, none⟩) (kF (p := ⟨gb371, 4, none⟩) (kF (p := ⟨gb371, 3, none⟩) (kF (p := ⟨gb371, 2, none⟩) (kF (p := ⟨gb371, 1, none⟩) (kF (p := ⟨gb371, 0, none⟩) (Kd.R_mono HO_4.out (fun k_ hk => (⟨hk, hk.2⟩ : _ ∧ k_ ≠ gb371))) (fun _ hk => hk.2) (.int .i64 t361)) (fun _ hk => hk.2) (.int .i64 t362)) (fun _ hk => hk.2) (.int .i64 t363)) (fun _ hk => hk.2) (.int .i64 t364)) (fun _ hk => hk.2) (.int .i64 t365)) (fun _ hk => hk.2) (.int .i64 t366)) (fun _ hk => hk.2) (.int .i64 t367)) (fun _ hk => hk.2) (.bool t368)) (fun _ hk => hk.1.2)))); (case aS => exact (below_size (bl HB.out))); (case aL => have := LMc4.out; omega); intro v373 w8 ho hb hg hat; rw [← Ny372.out] at ho; have n0_ := aM (blk_grown (g := gb371) (o := .cells #[.int .i64 t361, .int .i64 t362, .int .i64 t363, .int .i64 t364, .int .i64 t365, .int .i64 t366, .int .i64 t367, .bool t368] 82 (0, 0)) (by (with_reducible repeat (first | refine blk_drewN ?_ _ | refine blk_drew ?_ | refine blk_alloc ?_ _)); refine blk_put (cs := #[.int .i64 t361, .int .i64 t362, .int .i64 t363, .int .i64 t364, .int .i64 t365, .int .i64 t366, .int .i64 t367, .bool false]) ?_ 7 _ rfl; (with_reducible repeat (first | refine blk_drewN ?_ _ | refine blk_drew ?_ | refine blk_alloc ?_ _)); refine blk_put (cs := #[.int .i64 t361, .int .i64 t362, .int .i64 t363, .int .i64 t364, .int .i64 t365, .int .i64 t366, .int .i64 0, .bool false]) ?_ 6 _ rfl; (with_reducible repeat (first | refine blk_drewN ?_ _ | refine blk_drew ?_ | refine blk_alloc ?_ _)); refine blk_put (cs := #[.int .i64 t361, .int .i64 t362, .int .i64 t363, .int .i64 t364, .int .i64 t365, .int .i64 0, .int .i64 0, .bool false]) ?_ 5 _ rfl; (with_reducible repeat (first | refine blk_drewN ?_ _ | refine blk_drew ?_ | refine blk_alloc ?_ _)); refine blk_put (cs := #[.int .i64 t361, .int .i64 t362, .int .i64 t363, .int .i64 t364, .int .i64 0, .int .i64 0, .int .i64 0, .bool false]) ?_ 4 _ rfl; (with_reducible repeat (first | refine blk_drewN ?_ _ | refine blk_drew ?_ | refine blk_alloc ?_ _)); refine blk_put (cs := #[.int .i64 t361, .int .i64 t362, .int .i64 t363, .int .i64 0, .int .i64 0, .int .i64 0, .int .i64 0, .bool false]) ?_ 3 _ rfl; (with_reducible repeat (first | refine blk_drewN ?_ _ | refine blk_drew ?_ | refine blk_alloc ?_ _)); refine blk_put (cs := #[.int .i64 t361, .int .i64 t362, .int .i64 0, .int .i64 0, .int .i64 0, .int .i64 0, .int .i64 0, .bool false]) ?_ 2 _ rfl; (with_reducible repeat (first | refine blk_drewN ?_ _ | refine blk_drew ?_ | refine blk_alloc ?_ _)); refine blk_put (cs := #[.int .i64 t361, .int .i64 0, .int .i64 0, .int .i64 0, .int .i64 0, .int .i64 0, .int .i64 0, .bool false]) ?_ 1 _ rfl; (with_reducible repeat (first | refine blk_drewN ?_ _ | refine blk_drew ?_ | refine blk_alloc ?_ _)); refine blk_put (cs := #[.int .i64 0, .int .i64 0, .int .i64 0, .int .i64 0, .int .i64 0, .int .i64 0, .int .i64 0, .bool false]) ?_ 0 _ rfl; (with_reducible repeat (first | refine blk_drewN ?_ _ | refine blk_drew ?_ | refine blk_alloc ?_ _)); exact BK371.out) hg (Kd.R_away HO_4.out (fun _ hk => hk.2))); have n1_ := aM (hb); have n2_ := aM (ho); clear BK371 HB HO_4; have BK371 := n0_; have HB := n1_; have HO374 := n2_; clear n0_ n1_ n2_; clear ho hb hg hat))
   go_roundg k1
   case measure => have := HK1.out; omega
   case rel => exact ⟨(y372), (t369), xE, H', ⟨by have := HK1.out; omega⟩, ⟨kr (Kd.R_mono HO374.out (fun _ hk => trivial))⟩, ⟨bl HB.out⟩⟩

end Go.Proofs.Ytjaldondohddpaa.PFnExactAllOf
