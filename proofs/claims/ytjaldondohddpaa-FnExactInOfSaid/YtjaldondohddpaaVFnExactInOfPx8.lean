/- Of the proof of laws.FnExactInOf: a part. No condition beyond what its theorems say. -/
import Derived.Test.YtjaldondohddpaaVFnExactInOfPx0
import Derived.Test.YtjaldondohddpaaVFnExactInOfPx7
namespace Go.Proofs.Ytjaldondohddpaa.PFnExactInOf
open Go.RowKit Go.Proofs.YtjaldondohddpaaW.PrintWords Go.Proofs.YtjaldondohddpaaW.PrintLast Go.Proofs.YtjaldondohddpaaW.PrintMore
attribute [local go_sem] max2_int min2_int max_two min_two max_three min_three max_four min_four   -- for this text's walks alone
set_option linter.unusedVariables false
set_option linter.unusedSimpArgs false

mutual
def impl_InOf.j0 : Nat → List Int → Int → Bool → Option (Int × Int × Int × Int × Int × Int × Int × Bool × Int × Bool)
 | 0, _, _, _ => none
 | k + 1, x0, x1, x17 => if x17 = true then (some (0, 0, 0, 0, 0, 0, 0, false, 0, false)) else ((impl_reader_num.f k x0 x1 false).bind fun bt297 => ((impl_reader_num.f k x0 bt297.2.1 bt297.2.2).bind fun bt301 => (if bt297.1 = 1 then ((impl_reader_num.f k x0 bt301.2.1 bt301.2.2).bind fun bt304 => ((impl_reader_num.f k x0 bt304.2.1 bt304.2.2).bind fun bt307 => ((impl_reader_num.f k x0 bt307.2.1 bt307.2.2).bind fun bt310 => ((impl_reader_num.f k x0 bt310.2.1 bt310.2.2).bind fun bt313 => ((impl_reader_num.f k x0 bt313.2.1 bt313.2.2).bind fun bt316 => (impl_InOf.j1 k x0 x1 x0 bt316.2.1 bt316.2.2 bt297.1 bt301.1 bt304.1 bt307.1 bt310.1 bt313.1 bt316.1 false)))))) else (if bt297.1 = 3 then ((impl_reader_num.f k x0 bt301.2.1 bt301.2.2).bind fun bt319 => (impl_InOf.j1 k x0 x1 x0 bt319.2.1 bt319.2.2 bt297.1 bt301.1 0 0 0 0 0 (bt319.1 == 1))) else (impl_InOf.j1 k x0 x1 x0 bt301.2.1 bt301.2.2 bt297.1 bt301.1 0 0 0 0 0 false)))))
def impl_InOf.j1 : Nat → List Int → Int → List Int → Int → Bool → Int → Int → Int → Int → Int → Int → Int → Bool → Option (Int × Int × Int × Int × Int × Int × Int × Bool × Int × Bool)
 | 0, _, _, _, _, _, _, _, _, _, _, _, _, _ => none
 | k + 1, x0, x1, x297000, x297001, x297002, x301000, x301001, x301002, x301003, x301004, x301005, x301006, x301007 => (impl_InBytes.f k x301000 x301001 x301002 x301003 x301004 x301005 x301006 x301007).bind fun t322 => (if x297002 = true then (some (0, 0, 0, 0, 0, 0, 0, false, 0, false)) else (if (t322.length : Int) = 0 then (some (0, 0, 0, 0, 0, 0, 0, false, 0, false)) else (if 0 ≤ x1 then (if x1 ≤ (x0.length : Int) then ((bytes_HasPrefix.f (x0.drop (x1 : Int).toNat) t322).bind fun t326 => (if t326 = true then (some (x301000, x301001, x301002, x301003, x301004, x301005, x301006, x301007, wrap64 (x1 + (t322.length : Int)), true)) else (some (0, 0, 0, 0, 0, 0, 0, false, 0, false)))) else (none)) else (none))))
end
def impl_InOf.f (k : Nat) (l0 : List Int) (a1 : Int) : Option (Int × Int × Int × Int × Int × Int × Int × Bool × Int × Bool) := if a1 < 0 then (impl_InOf.j0 k l0 a1 true) else (impl_InOf.j0 k l0 a1 (decide (a1 > (l0.length : Int))))
theorem impl_InOf.mono_l : ∀ k, (∀ y0 y1 y2, LeO (impl_InOf.j0 k y0 y1 y2) (impl_InOf.j0 (k + 1) y0 y1 y2)) ∧ (∀ y0 y1 y2 y3 y4 y5 y6 y7 y8 y9 y10 y11 y12, LeO (impl_InOf.j1 k y0 y1 y2 y3 y4 y5 y6 y7 y8 y9 y10 y11 y12) (impl_InOf.j1 (k + 1) y0 y1 y2 y3 y4 y5 y6 y7 y8 y9 y10 y11 y12))
 | 0 => ⟨fun _ _ _ r h => by simp [impl_InOf.j0] at h, fun _ _ _ _ _ _ _ _ _ _ _ _ _ r h => by simp [impl_InOf.j1] at h⟩
 | k + 1 => by
  obtain ⟨ih0, ih1⟩ := impl_InOf.mono_l k
  refine ⟨?_, ?_⟩
  ·intro y0 y1 y2
   unfold impl_InOf.j0
   repeat' first
   | (with_reducible exact ih0 _ _ _)
   | (with_reducible exact ih1 _ _ _ _ _ _ _ _ _ _ _ _ _)
   | (with_reducible exact impl_InBytes.mono _ _ _ _ _ _ _ _ _)
   | (with_reducible exact impl_reader_num.mono _ _ _ _)
   | (with_reducible exact LeO.refl _)
   | (with_reducible exact LeO.none _)
   | (with_reducible refine LeO.ite ?_ ?_)
   | (with_reducible refine LeO.bind ?_ (fun _ => ?_))
   | exact ih0 _ _ _
   | exact ih1 _ _ _ _ _ _ _ _ _ _ _ _ _
   | exact impl_InBytes.mono _ _ _ _ _ _ _ _ _
   | exact impl_reader_num.mono _ _ _ _
   | exact LeO.none _
   | refine LeO.ite ?_ ?_
   | refine LeO.bind ?_ (fun _ => ?_)
  ·intro y0 y1 y2 y3 y4 y5 y6 y7 y8 y9 y10 y11 y12
   unfold impl_InOf.j1
   repeat' first
   | (with_reducible exact ih0 _ _ _)
   | (with_reducible exact ih1 _ _ _ _ _ _ _ _ _ _ _ _ _)
   | (with_reducible exact impl_InBytes.mono _ _ _ _ _ _ _ _ _)
   | (with_reducible exact impl_reader_num.mono _ _ _ _)
   | (with_reducible exact LeO.refl _)
   | (with_reducible exact LeO.none _)
   | (with_reducible refine LeO.ite ?_ ?_)
   | (with_reducible refine LeO.bind ?_ (fun _ => ?_))
   | exact ih0 _ _ _
   | exact ih1 _ _ _ _ _ _ _ _ _ _ _ _ _
   | exact impl_InBytes.mono _ _ _ _ _ _ _ _ _
   | exact impl_reader_num.mono _ _ _ _
   | exact LeO.none _
   | refine LeO.ite ?_ ?_
   | refine LeO.bind ?_ (fun _ => ?_)
theorem impl_InOf.mono : ∀ a0 a1 k, LeO (impl_InOf.f k a0 a1) (impl_InOf.f (k + 1) a0 a1) := by
 intro a0 a1 k
 obtain ⟨ih0, ih1⟩ := impl_InOf.mono_l k
 unfold impl_InOf.f
 repeat' first
   | (with_reducible exact ih0 _ _ _)
   | (with_reducible exact ih1 _ _ _ _ _ _ _ _ _ _ _ _ _)
   | (with_reducible exact impl_InBytes.mono _ _ _ _ _ _ _ _ _)
   | (with_reducible exact impl_reader_num.mono _ _ _ _)
   | (with_reducible exact LeO.refl _)
   | (with_reducible exact LeO.none _)
   | (with_reducible refine LeO.ite ?_ ?_)
   | (with_reducible refine LeO.bind ?_ (fun _ => ?_))
   | exact ih0 _ _ _
   | exact ih1 _ _ _ _ _ _ _ _ _ _ _ _ _
   | exact impl_InBytes.mono _ _ _ _ _ _ _ _ _
   | exact impl_reader_num.mono _ _ _ _
   | exact LeO.none _
   | refine LeO.ite ?_ ?_
   | refine LeO.bind ?_ (fun _ => ?_)
set_option maxHeartbeats 60000000 in
set_option maxRecDepth 100000 in
theorem impl_InOf.calls (k : Nat) (A0 : Option Addr) (c0 : Nat) (l0 : List Int) (a1 : Int) (r1 : Int) (r2 : Int) (r3 : Int) (r4 : Int) (r5 : Int) (r6 : Int) (r7 : Int) (r8 : Bool) (r9 : Int) (r10 : Bool) (w : World) (hr0 : Kd.C (Kd.int .u8) w A0 l0.length l0) (hc0 : l0.length ≤ c0) (h : impl_InOf.f k l0 a1 = some (r1, r2, r3, r4, r5, r6, r7, r8, r9, r10)) :
  Calls Try.prog 60 #[.slice A0 l0.length c0, .int .i64 a1] w fun e w' => e = .returned (.tuple #[.agg #[.int .i64 r1, .int .i64 r2, .int .i64 r3, .int .i64 r4, .int .i64 r5, .int .i64 r6, .int .i64 r7, .bool r8], .int .i64 r9, .bool r10]) ∧ Below w.heap.size w w' := by
 have hu82 := Try.underlying82
 have hu142 := Try.underlying142
 have HR0 := aM hr0
 have HC0 := aM hc0
 clear hr0 hc0
 have HB := aM (Below.refl w.heap.size w)
 have H : (if a1 < 0 then (impl_InOf.j0 k l0 a1 true) else (impl_InOf.j0 k l0 a1 (decide (a1 > (l0.length : Int))))) = some (r1, r2, r3, r4, r5, r6, r7, r8, r9, r10) := h
 clear h
 have HC3 := aM H
 clear H
 go_enter Try.func60, Try.ntmps60
 go_upto_region 1 with (first | ((with_reducible refine gate_dst (N := 4) rfl ?_); (try (refine gate_guard (by rfl) ?_; dsimp only)); refine box_event ?hg (N := 4) ?hd (cs := #[.int .i64 0, .int .i64 0, .int .i64 0, .int .i64 0, .int .i64 0, .int .i64 0, .int .i64 0, .bool false]) (t := 82) ?hr ?_; (case hd => rfl); (case hg => rfl); (case hr => first | (go_simp; done) | (go_simp; rfl)); intro gb295 hg w4 hbox hb; have n0_ := aM (bS (bl HB.out) hb); have n1_ := aM (hbox); have n2_ := aM ((by rw [hg]; exact (below_size (bl HB.out)) : w.heap.size ≤ gb295)); have n3_ := aM ((by rw [hg]; exact (below_size (bl HB.out)) : w.heap.size ≤ gb295)); clear HB; have HB := n0_; have BK295 := n1_; have GW295 := n2_; have GE295 := n3_; clear n0_ n1_ n2_ n3_; clear hb hbox hg))
 (try simp only [Act.put, sA, sZ, sS])
 go_cut [17] (fun v17 wc => ∃ (kq : Nat) (x17_2 : Bool), v17 = .bool x17_2 ∧ Aside0 (impl_InOf.j0 kq l0 a1 x17_2 = some (r1, r2, r3, r4, r5, r6, r7, r8, r9, r10)) ∧ Aside0 (kq ≤ k) ∧ Aside0 (wc.heap[gb295]? = some (.cells #[.int .i64 0, .int .i64 0, .int .i64 0, .int .i64 0, .int .i64 0, .int .i64 0, .int .i64 0, .bool false] 82 (0, 0))) ∧ Aside0 (Below w.heap.size w wc))
 case first =>
  have H := HC3.out
  clear HC3
  by_cases c5 : a1 < 0
  case pos =>
   rw [if_pos c5] at H
   have c5b0 : decide (a1 < 0) = true := decide_eq_true c5
   clear c5
   (first | rw [c5b0] | (simp only [i64_w, i32_w]; rw [c5b0]) | skip)
   have H' := aM H
   clear H
   go_wp2
   go_meet
   case rel => exact ⟨_, (true), xE, H', ⟨by first | omega | exact Nat.le_refl _⟩, ⟨by (with_reducible repeat (first | refine blk_drewN ?_ _ | refine blk_drew ?_ | refine blk_alloc ?_ _)); exact BK295.out⟩, ⟨bl HB.out⟩⟩
  rw [if_neg c5] at H
  have c5b0 : decide (a1 < 0) = false := decide_eq_false c5
  clear c5
  (first | rw [c5b0] | (simp only [i64_w, i32_w]; rw [c5b0]) | skip)
  have H' := aM H
  clear H
  go_wp2
  go_meet
  case rel => exact ⟨_, (decide (a1 > (l0.length : Int))), xE, H', ⟨by first | omega | exact Nat.le_refl _⟩, ⟨by (with_reducible repeat (first | refine blk_drewN ?_ _ | refine blk_drew ?_ | refine blk_alloc ?_ _)); exact BK295.out⟩, ⟨bl HB.out⟩⟩
 case rest =>
  clear HC3
  try clear p2
  try clear c5
  try clear c5b0
  obtain ⟨kq, x17_2, rfl, HA, HJ2, BK295, HB⟩ := hcut
  cases kq with
  | zero => exact absurd HA.out (by simp [impl_InOf.j0])
  | succ kj2 =>
   have H := HA.out
   clear HA
   simp only [impl_InOf.j0] at H
   by_cases c6 : x17_2 = true
   case pos =>
    subst c6
    have H1 : (some (0, 0, 0, 0, 0, 0, 0, false, 0, false)) = some (r1, r2, r3, r4, r5, r6, r7, r8, r9, r10) := by rw [if_pos rfl] at H; exact H
    clear H
    have H := H1
    clear H1
    simp only [Option.some.injEq, Prod.mk.injEq] at H
    obtain ⟨rfl, rfl, rfl, rfl, rfl, rfl, rfl, rfl, rfl, rfl⟩ := H
    have hcz7_0 := cI BK295.out 0
    have hcz7_1 := cI BK295.out 1
    have hcz7_2 := cI BK295.out 2
    have hcz7_3 := cI BK295.out 3
    have hcz7_4 := cI BK295.out 4
    have hcz7_5 := cI BK295.out 5
    have hcz7_6 := cI BK295.out 6
    have hcz7_7 := cI BK295.out 7
    have hfz7_0 := bF BK295.out 0
    have hfz7_1 := bF BK295.out 1
    have hfz7_2 := bF BK295.out 2
    have hfz7_3 := bF BK295.out 3
    have hfz7_4 := bF BK295.out 4
    have hfz7_5 := bF BK295.out 5
    have hfz7_6 := bF BK295.out 6
    have hfz7_7 := bF BK295.out 7
    go_wp2
    refine bodyPost_ret (results_ctt rfl _ _ gb295 82 #[.int .i64 0, .int .i64 0, .int .i64 0, .int .i64 0, .int .i64 0, .int .i64 0, .int .i64 0, .bool false] (0, 0) _ rfl (by (with_reducible repeat (first | refine blk_drewN ?_ _ | refine blk_drew ?_ | refine blk_alloc ?_ _)); refine blk_put (cs := #[.int .i64 0, .int .i64 0, .int .i64 0, .int .i64 0, .int .i64 0, .int .i64 0, .int .i64 0, .bool false]) ?_ 7 _ rfl; (with_reducible repeat (first | refine blk_drewN ?_ _ | refine blk_drew ?_ | refine blk_alloc ?_ _)); refine blk_put (cs := #[.int .i64 0, .int .i64 0, .int .i64 0, .int .i64 0, .int .i64 0, .int .i64 0, .int .i64 0, .bool false]) ?_ 6 _ rfl; (with_reducible repeat (first | refine blk_drewN ?_ _ | refine blk_drew ?_ | refine blk_alloc ?_ _)); refine blk_put (cs := #[.int .i64 0, .int .i64 0, .int .i64 0, .int .i64 0, .int .i64 0, .int .i64 0, .int .i64 0, .bool false]) ?_ 5 _ rfl; (with_reducible repeat (first | refine blk_drewN ?_ _ | refine blk_drew ?_ | refine blk_alloc ?_ _)); refine blk_put (cs := #[.int .i64 0, .int .i64 0, .int .i64 0, .int .i64 0, .int .i64 0, .int .i64 0, .int .i64 0, .bool false]) ?_ 4 _ rfl; (with_reducible repeat (first | refine blk_drewN ?_ _ | refine blk_drew ?_ | refine blk_alloc ?_ _)); refine blk_put (cs := #[.int .i64 0, .int .i64 0, .int .i64 0, .int .i64 0, .int .i64 0, .int .i64 0, .int .i64 0, .bool false]) ?_ 3 _ rfl; (with_reducible repeat (first | refine blk_drewN ?_ _ | refine blk_drew ?_ | refine blk_alloc ?_ _)); refine blk_put (cs := #[.int .i64 0, .int .i64 0, .int .i64 0, .int .i64 0, .int .i64 0, .int .i64 0, .int .i64 0, .bool false]) ?_ 2 _ rfl; (with_reducible repeat (first | refine blk_drewN ?_ _ | refine blk_drew ?_ | refine blk_alloc ?_ _)); refine blk_put (cs := #[.int .i64 0, .int .i64 0, .int .i64 0, .int .i64 0, .int .i64 0, .int .i64 0, .int .i64 0, .bool false]) ?_ 1 _ rfl; (with_reducible repeat (first | refine blk_drewN ?_ _ | refine blk_drew ?_ | refine blk_alloc ?_ _)); refine blk_put (cs := #[.int .i64 0, .int .i64 0, .int .i64 0, .int .i64 0, .int .i64 0, .int .i64 0, .int .i64 0, .bool false]) ?_ 0 _ rfl; (with_reducible repeat (first | refine blk_drewN ?_ _ | refine blk_drew ?_ | refine blk_alloc ?_ _)); exact BK295.out) Try.underlying82 rfl (by kernel_rfl)) rfl ?_
    exact ⟨xW, bl HB.out⟩
   replace c6 := Bool.eq_false_iff.mpr c6
   subst c6
   have H1 : ((impl_reader_num.f kj2 l0 a1 false).bind fun bt297 => ((impl_reader_num.f kj2 l0 bt297.2.1 bt297.2.2).bind fun bt301 => (if bt297.1 = 1 then ((impl_reader_num.f kj2 l0 bt301.2.1 bt301.2.2).bind fun bt304 => ((impl_reader_num.f kj2 l0 bt304.2.1 bt304.2.2).bind fun bt307 => ((impl_reader_num.f kj2 l0 bt307.2.1 bt307.2.2).bind fun bt310 => ((impl_reader_num.f kj2 l0 bt310.2.1 bt310.2.2).bind fun bt313 => ((impl_reader_num.f kj2 l0 bt313.2.1 bt313.2.2).bind fun bt316 => (impl_InOf.j1 kj2 l0 a1 l0 bt316.2.1 bt316.2.2 bt297.1 bt301.1 bt304.1 bt307.1 bt310.1 bt313.1 bt316.1 false)))))) else (if bt297.1 = 3 then ((impl_reader_num.f kj2 l0 bt301.2.1 bt301.2.2).bind fun bt319 => (impl_InOf.j1 kj2 l0 a1 l0 bt319.2.1 bt319.2.2 bt297.1 bt301.1 0 0 0 0 0 (bt319.1 == 1))) else (impl_InOf.j1 kj2 l0 a1 l0 bt301.2.1 bt301.2.2 bt297.1 bt301.1 0 0 0 0 0 false))))) = some (r1, r2, r3, r4, r5, r6, r7, r8, r9, r10) := by rw [if_neg (show ¬ (false = true) by decide)] at H; exact H
   clear H
   have H := H1
   clear H1
   replace H := Option.bind_eq_some_iff.mp H
   obtain ⟨⟨t297, t298, t299⟩, A80, H⟩ := H
   replace H : ((impl_reader_num.f kj2 l0 t298 t299).bind fun bt301 => (if t297 = 1 then ((impl_reader_num.f kj2 l0 bt301.2.1 bt301.2.2).bind fun bt304 => ((impl_reader_num.f kj2 l0 bt304.2.1 bt304.2.2).bind fun bt307 => ((impl_reader_num.f kj2 l0 bt307.2.1 bt307.2.2).bind fun bt310 => ((impl_reader_num.f kj2 l0 bt310.2.1 bt310.2.2).bind fun bt313 => ((impl_reader_num.f kj2 l0 bt313.2.1 bt313.2.2).bind fun bt316 => (impl_InOf.j1 kj2 l0 a1 l0 bt316.2.1 bt316.2.2 t297 bt301.1 bt304.1 bt307.1 bt310.1 bt313.1 bt316.1 false)))))) else (if t297 = 3 then ((impl_reader_num.f kj2 l0 bt301.2.1 bt301.2.2).bind fun bt319 => (impl_InOf.j1 kj2 l0 a1 l0 bt319.2.1 bt319.2.2 t297 bt301.1 0 0 0 0 0 (bt319.1 == 1))) else (impl_InOf.j1 kj2 l0 a1 l0 bt301.2.1 bt301.2.2 t297 bt301.1 0 0 0 0 0 false)))) = some (r1, r2, r3, r4, r5, r6, r7, r8, r9, r10) := H
   have A8 := aM A80
   clear A80
   replace H := Option.bind_eq_some_iff.mp H
   obtain ⟨⟨t301, t302, t303⟩, A90, H⟩ := H
   replace H : (if t297 = 1 then ((impl_reader_num.f kj2 l0 t302 t303).bind fun bt304 => ((impl_reader_num.f kj2 l0 bt304.2.1 bt304.2.2).bind fun bt307 => ((impl_reader_num.f kj2 l0 bt307.2.1 bt307.2.2).bind fun bt310 => ((impl_reader_num.f kj2 l0 bt310.2.1 bt310.2.2).bind fun bt313 => ((impl_reader_num.f kj2 l0 bt313.2.1 bt313.2.2).bind fun bt316 => (impl_InOf.j1 kj2 l0 a1 l0 bt316.2.1 bt316.2.2 t297 t301 bt304.1 bt307.1 bt310.1 bt313.1 bt316.1 false)))))) else (if t297 = 3 then ((impl_reader_num.f kj2 l0 t302 t303).bind fun bt319 => (impl_InOf.j1 kj2 l0 a1 l0 bt319.2.1 bt319.2.2 t297 t301 0 0 0 0 0 (bt319.1 == 1))) else (impl_InOf.j1 kj2 l0 a1 l0 t302 t303 t297 t301 0 0 0 0 0 false))) = some (r1, r2, r3, r4, r5, r6, r7, r8, r9, r10) := H
   have A9 := aM A90
   clear A90
   have HC10 := aM H
   clear H
   go_upto_block 0 with (first | ((with_reducible refine gate_dst (N := 7) rfl ?_); (try (refine gate_guard (by rfl) ?_; dsimp only)); refine box_event ?hg (N := 7) ?hd (cs := #[.slice none 0 0, .int .i64 0, .bool false]) (t := 142) ?hr ?_; (case hd => rfl); (case hg => rfl); (case hr => first | (go_simp; done) | (go_simp; rfl)); intro gb296 hg w11 hbox hb; have n0_ := aM (bB (g := gb295) (o := .cells #[.int .i64 0, .int .i64 0, .int .i64 0, .int .i64 0, .int .i64 0, .int .i64 0, .int .i64 0, .bool false] 82 (0, 0)) (bk BK295.out) hb); have n1_ := aM (bS (bl HB.out) hb); have n2_ := aM ((by rw [hg]; exact Nat.ne_of_lt (blk_lt (g := gb295) (o := .cells #[.int .i64 0, .int .i64 0, .int .i64 0, .int .i64 0, .int .i64 0, .int .i64 0, .int .i64 0, .bool false] 82 (0, 0)) (bk BK295.out)) : gb295 ≠ gb296)); have n3_ := aM ((by rw [hg]; exact Nat.ne_of_gt (blk_lt (g := gb295) (o := .cells #[.int .i64 0, .int .i64 0, .int .i64 0, .int .i64 0, .int .i64 0, .int .i64 0, .int .i64 0, .bool false] 82 (0, 0)) (bk BK295.out)) : gb296 ≠ gb295)); have n4_ := aM ((show IsS142 w w11 gb296 ([] : List Int) 0 false from ⟨_, _, hbox, (by rw [hg]; exact (below_size (bl HB.out)) : w.heap.size ≤ gb296), ⟨Kd.C_nil _ _, Nat.le_refl _⟩⟩)); clear BK295 HB; have BK295 := n0_; have HB := n1_; have NB295_296 := n2_; have NB296_295 := n3_; have HI296 := n4_; clear n0_ n1_ n2_ n3_ n4_; clear hb hbox hg; obtain ⟨ASz12_0, cSz12_0, HGz12, hgz12, HSz12_0⟩ := HI296.out; have hcz12_0 := cellS142_0 HGz12; have hcz12_1 := cellS142_1 HGz12; have hcz12_2 := cellS142_2 HGz12; have hfz12_0 := bF HGz12 0; have hfz12_1 := bF HGz12 1; have hfz12_2 := bF HGz12 2; clear HGz12 hgz12) | ((with_reducible refine gate_callee (f := 115) rfl ?_); refine goesL_ (some 22) rfl rfl Try.func115 (by kernel_rfl) rfl #[.pointer (some ⟨gb296, 0, none⟩)] rfl xR ?_; (with_reducible refine (impl_reader_num.calls kj2 gb296 l0 a1 false t297 t298 t299 w _ ?side1 ?side2 A8.out).mono ?_); (case side1 => repeat (first | (with_reducible first | exact HI296.out | apply IsS142.alloc | apply IsS142.drewN | apply IsS142.drew | apply IsS142.set_1 | apply IsS142.set_2 | apply IsS142.put_0 (hx_ := ⟨HR0.out, HC0.out⟩) | refine IsS142.far ?_ NB296_295.out _) | exact HI296.out)); (case side2 => repeat (first | (with_reducible first | exact HB.out | apply below_alloc | apply pw_below_drewN | apply below_drew1 | refine below_set ?_ (IsS142.ge HI296.out) | refine below_set ?_ GE295.out) | exact HB.out)); rintro e w13 ⟨rfl, hi, hb, hk⟩; refine ⟨_, rfl, ?_⟩; have n0_ := aM (KeepBut.blk hk (g' := gb295) (o := .cells #[.int .i64 0, .int .i64 0, .int .i64 0, .int .i64 0, .int .i64 0, .int .i64 0, .int .i64 0, .bool false] 82 (0, 0)) (by (with_reducible repeat (first | refine blk_drewN ?_ _ | refine blk_drew ?_ | refine blk_alloc ?_ _)); refine blk_far ?_ NB295_296.out _; (with_reducible repeat (first | refine blk_drewN ?_ _ | refine blk_drew ?_ | refine blk_alloc ?_ _)); refine blk_far ?_ NB295_296.out _; (with_reducible repeat (first | refine blk_drewN ?_ _ | refine blk_drew ?_ | refine blk_alloc ?_ _)); refine blk_far ?_ NB295_296.out _; (with_reducible repeat (first | refine blk_drewN ?_ _ | refine blk_drew ?_ | refine blk_alloc ?_ _)); exact BK295.out) NB295_296.out (by simp)); have n1_ := aM (hb); have n2_ := aM (hi); clear BK295 HB HI296; have BK295 := n0_; have HB := n1_; have HI296 := n2_; clear n0_ n1_ n2_; (try clear hb); (try clear hk); (try clear hi)) | ((with_reducible refine gate_dst (N := 8) rfl ?_); (try (refine gate_guard (by rfl) ?_; dsimp only)); refine box_event ?hg (N := 8) ?hd (cs := #[.int .i64 0, .int .i64 0, .int .i64 0, .int .i64 0, .int .i64 0, .int .i64 0, .int .i64 0, .bool false]) (t := 82) ?hr ?_; (case hd => rfl); (case hg => rfl); (case hr => first | (go_simp; done) | (go_simp; rfl)); intro gb300 hg w14 hbox hb; have n0_ := aM (bB (g := gb295) (o := .cells #[.int .i64 0, .int .i64 0, .int .i64 0, .int .i64 0, .int .i64 0, .int .i64 0, .int .i64 0, .bool false] 82 (0, 0)) (bk BK295.out) hb); have n1_ := aM (IsS142.below (by repeat (first | (with_reducible first | exact HI296.out | apply IsS142.alloc | apply IsS142.drewN | apply IsS142.drew | apply IsS142.set_1 | apply IsS142.set_2 | apply IsS142.put_0 (hx_ := ⟨HR0.out, HC0.out⟩) | refine IsS142.far ?_ NB296_295.out _) | exact HI296.out)) hb); have n2_ := aM (bS (by repeat (first | (with_reducible first | exact HB.out | apply below_alloc | apply pw_below_drewN | apply below_drew1 | refine below_set ?_ (IsS142.ge HI296.out) | refine below_set ?_ GE295.out) | exact HB.out)) hb); have n3_ := aM (hbox); have n4_ := aM ((by rw [hg]; exact (below_size (by repeat (first | (with_reducible first | exact HB.out | apply below_alloc | apply pw_below_drewN | apply below_drew1 | refine below_set ?_ (IsS142.ge HI296.out) | refine below_set ?_ GE295.out) | exact HB.out))) : w.heap.size ≤ gb300)); have n5_ := aM ((by rw [hg]; exact (below_size (by repeat (first | (with_reducible first | exact HB.out | apply below_alloc | apply pw_below_drewN | apply below_drew1 | refine below_set ?_ (IsS142.ge HI296.out) | refine below_set ?_ GE295.out) | exact HB.out))) : w.heap.size ≤ gb300)); have n6_ := aM ((by rw [hg]; exact Nat.ne_of_lt (blk_lt (g := gb295) (o := .cells #[.int .i64 0, .int .i64 0, .int .i64 0, .int .i64 0, .int .i64 0, .int .i64 0, .int .i64 0, .bool false] 82 (0, 0)) (bk BK295.out)) : gb295 ≠ gb300)); have n7_ := aM ((by rw [hg]; exact Nat.ne_of_gt (blk_lt (g := gb295) (o := .cells #[.int .i64 0, .int .i64 0, .int .i64 0, .int .i64 0, .int .i64 0, .int .i64 0, .int .i64 0, .bool false] 82 (0, 0)) (bk BK295.out)) : gb300 ≠ gb295)); have n8_ := aM ((by rw [hg]; exact Nat.ne_of_lt (IsS142.lt (show IsS142 w _ gb296 l0 t298 t299 from by repeat (first | (with_reducible first | exact HI296.out | apply IsS142.alloc | apply IsS142.drewN | apply IsS142.drew | apply IsS142.set_1 | apply IsS142.set_2 | apply IsS142.put_0 (hx_ := ⟨HR0.out, HC0.out⟩) | refine IsS142.far ?_ NB296_295.out _) | exact HI296.out))) : gb296 ≠ gb300)); have n9_ := aM ((by rw [hg]; exact Nat.ne_of_gt (IsS142.lt (show IsS142 w _ gb296 l0 t298 t299 from by repeat (first | (with_reducible first | exact HI296.out | apply IsS142.alloc | apply IsS142.drewN | apply IsS142.drew | apply IsS142.set_1 | apply IsS142.set_2 | apply IsS142.put_0 (hx_ := ⟨HR0.out, HC0.out⟩) | refine IsS142.far ?_ NB296_295.out _) | exact HI296.out))) : gb300 ≠ gb296)); clear BK295 HI296 HB; have BK295 := n0_; have HI296 := n1_; have HB := n2_; have BK300 := n3_; have GW300 := n4_; have GE300 := n5_; have NB295_300 := n6_; have NB300_295 := n7_; have NB296_300 := n8_; have NB300_296 := n9_; clear n0_ n1_ n2_ n3_ n4_ n5_ n6_ n7_ n8_ n9_; clear hb hbox hg; have hnb15 := NB300_295.out; have hnc15 := NB295_300.out; have hnb16 := NB300_296.out; have hnc16 := NB296_300.out; have hcz17_0 := cI BK300.out 0; have hcz17_1 := cI BK300.out 1; have hcz17_2 := cI BK300.out 2; have hcz17_3 := cI BK300.out 3; have hcz17_4 := cI BK300.out 4; have hcz17_5 := cI BK300.out 5; have hcz17_6 := cI BK300.out 6; have hcz17_7 := cI BK300.out 7; have hfz17_0 := bF BK300.out 0; have hfz17_1 := bF BK300.out 1; have hfz17_2 := bF BK300.out 2; have hfz17_3 := bF BK300.out 3; have hfz17_4 := bF BK300.out 4; have hfz17_5 := bF BK300.out 5; have hfz17_6 := bF BK300.out 6; have hfz17_7 := bF BK300.out 7) | ((with_reducible refine gate_callee (f := 115) rfl ?_); refine goesL_ (some 24) rfl rfl Try.func115 (by kernel_rfl) rfl #[.pointer (some ⟨gb296, 0, none⟩)] rfl xR ?_; (with_reducible refine (impl_reader_num.calls kj2 gb296 l0 t298 t299 t301 t302 t303 w _ ?side1 ?side2 A9.out).mono ?_); (case side1 => repeat (first | (with_reducible first | exact HI296.out | apply IsS142.alloc | apply IsS142.drewN | apply IsS142.drew | apply IsS142.set_1 | apply IsS142.set_2 | apply IsS142.put_0 (hx_ := ⟨HR0.out, HC0.out⟩) | refine IsS142.far ?_ NB296_295.out _ | refine IsS142.far ?_ NB296_300.out _) | exact HI296.out)); (case side2 => repeat (first | (with_reducible first | exact HB.out | apply below_alloc | apply pw_below_drewN | apply below_drew1 | refine below_set ?_ (IsS142.ge HI296.out) | refine below_set ?_ GE295.out | refine below_set ?_ GE300.out) | exact HB.out)); rintro e w18 ⟨rfl, hi, hb, hk⟩; refine ⟨_, rfl, ?_⟩; have n0_ := aM (KeepBut.blk hk (g' := gb295) (o := .cells #[.int .i64 0, .int .i64 0, .int .i64 0, .int .i64 0, .int .i64 0, .int .i64 0, .int .i64 0, .bool false] 82 (0, 0)) (by (with_reducible repeat (first | refine blk_drewN ?_ _ | refine blk_drew ?_ | refine blk_alloc ?_ _)); refine blk_far ?_ NB295_300.out _; (with_reducible repeat (first | refine blk_drewN ?_ _ | refine blk_drew ?_ | refine blk_alloc ?_ _)); refine blk_far ?_ NB295_300.out _; (with_reducible repeat (first | refine blk_drewN ?_ _ | refine blk_drew ?_ | refine blk_alloc ?_ _)); refine blk_far ?_ NB295_300.out _; (with_reducible repeat (first | refine blk_drewN ?_ _ | refine blk_drew ?_ | refine blk_alloc ?_ _)); refine blk_far ?_ NB295_300.out _; (with_reducible repeat (first | refine blk_drewN ?_ _ | refine blk_drew ?_ | refine blk_alloc ?_ _)); refine blk_far ?_ NB295_300.out _; (with_reducible repeat (first | refine blk_drewN ?_ _ | refine blk_drew ?_ | refine blk_alloc ?_ _)); refine blk_far ?_ NB295_300.out _; (with_reducible repeat (first | refine blk_drewN ?_ _ | refine blk_drew ?_ | refine blk_alloc ?_ _)); refine blk_far ?_ NB295_300.out _; (with_reducible repeat (first | refine blk_drewN ?_ _ | refine blk_drew ?_ | refine blk_alloc ?_ _)); refine blk_far ?_ NB295_300.out _; (with_reducible repeat (first | refine blk_drewN ?_ _ | refine blk_drew ?_ | refine blk_alloc ?_ _)); exact BK295.out) NB295_296.out (by simp)); have n1_ := aM (KeepBut.blk hk (g' := gb300) (o := .cells #[.int .i64 t297, .int .i64 0, .int .i64 0, .int .i64 0, .int .i64 0, .int .i64 0, .int .i64 0, .bool false] 82 (0, 0)) (by (with_reducible repeat (first | refine blk_drewN ?_ _ | refine blk_drew ?_ | refine blk_alloc ?_ _)); refine blk_put (cs := #[.int .i64 t297, .int .i64 0, .int .i64 0, .int .i64 0, .int .i64 0, .int .i64 0, .int .i64 0, .bool false]) ?_ 7 _ rfl; (with_reducible repeat (first | refine blk_drewN ?_ _ | refine blk_drew ?_ | refine blk_alloc ?_ _)); refine blk_put (cs := #[.int .i64 t297, .int .i64 0, .int .i64 0, .int .i64 0, .int .i64 0, .int .i64 0, .int .i64 0, .bool false]) ?_ 6 _ rfl; (with_reducible repeat (first | refine blk_drewN ?_ _ | refine blk_drew ?_ | refine blk_alloc ?_ _)); refine blk_put (cs := #[.int .i64 t297, .int .i64 0, .int .i64 0, .int .i64 0, .int .i64 0, .int .i64 0, .int .i64 0, .bool false]) ?_ 5 _ rfl; (with_reducible repeat (first | refine blk_drewN ?_ _ | refine blk_drew ?_ | refine blk_alloc ?_ _)); refine blk_put (cs := #[.int .i64 t297, .int .i64 0, .int .i64 0, .int .i64 0, .int .i64 0, .int .i64 0, .int .i64 0, .bool false]) ?_ 4 _ rfl; (with_reducible repeat (first | refine blk_drewN ?_ _ | refine blk_drew ?_ | refine blk_alloc ?_ _)); refine blk_put (cs := #[.int .i64 t297, .int .i64 0, .int .i64 0, .int .i64 0, .int .i64 0, .int .i64 0, .int .i64 0, .bool false]) ?_ 3 _ rfl; (with_reducible repeat (first | refine blk_drewN ?_ _ | refine blk_drew ?_ | refine blk_alloc ?_ _)); refine blk_put (cs := #[.int .i64 t297, .int .i64 0, .int .i64 0, .int .i64 0, .int .i64 0, .int .i64 0, .int .i64 0, .bool false]) ?_ 2 _ rfl; (with_reducible repeat (first | refine blk_drewN ?_ _ | refine blk_drew ?_ | refine blk_alloc ?_ _)); refine blk_put (cs := #[.int .i64 t297, .int .i64 0, .int .i64 0, .int .i64 0, .int .i64 0, .int .i64 0, .int .i64 0, .bool false]) ?_ 1 _ rfl; (with_reducible repeat (first | refine blk_drewN ?_ _ | refine blk_drew ?_ | refine blk_alloc ?_ _)); refine blk_put (cs := #[.int .i64 0, .int .i64 0, .int .i64 0, .int .i64 0, .int .i64 0, .int .i64 0, .int .i64 0, .bool false]) ?_ 0 _ rfl; (with_reducible repeat (first | refine blk_drewN ?_ _ | refine blk_drew ?_ | refine blk_alloc ?_ _)); exact BK300.out) NB300_296.out (by simp)); have n2_ := aM (hb); have n3_ := aM (hi); clear BK295 BK300; clear HB HI296; have BK295 := n0_; have BK300 := n1_; have HB := n2_; have HI296 := n3_; clear n0_ n1_ n2_ n3_; (try clear hb); (try clear hk); (try clear hi); have hcz19_0 := cI BK300.out 0; have hcz19_1 := cI BK300.out 1; have hcz19_2 := cI BK300.out 2; have hcz19_3 := cI BK300.out 3; have hcz19_4 := cI BK300.out 4; have hcz19_5 := cI BK300.out 5; have hcz19_6 := cI BK300.out 6; have hcz19_7 := cI BK300.out 7; have hfz19_0 := bF BK300.out 0; have hfz19_1 := bF BK300.out 1; have hfz19_2 := bF BK300.out 2; have hfz19_3 := bF BK300.out 3; have hfz19_4 := bF BK300.out 4; have hfz19_5 := bF BK300.out 5; have hfz19_6 := bF BK300.out 6; have hfz19_7 := bF BK300.out 7))
   (try simp only [Act.put, sA, sZ, sS])
   go_cut [] (fun wc => ∃ (kq : Nat) (t302 : Int) (t303 : Bool) (x301002_9 : Int) (x301003_9 : Int) (x301004_9 : Int) (x301005_9 : Int) (x301006_9 : Int) (x301007_9 : Bool), Aside0 (impl_InOf.j1 kq l0 a1 l0 t302 t303 t297 t301 x301002_9 x301003_9 x301004_9 x301005_9 x301006_9 x301007_9 = some (r1, r2, r3, r4, r5, r6, r7, r8, r9, r10)) ∧ Aside0 (kq ≤ kj2) ∧ Aside0 (wc.heap[gb295]? = some (.cells #[.int .i64 0, .int .i64 0, .int .i64 0, .int .i64 0, .int .i64 0, .int .i64 0, .int .i64 0, .bool false] 82 (0, 0))) ∧ Aside0 (wc.heap[gb300]? = some (.cells #[.int .i64 t297, .int .i64 t301, .int .i64 x301002_9, .int .i64 x301003_9, .int .i64 x301004_9, .int .i64 x301005_9, .int .i64 x301006_9, .bool x301007_9] 82 (0, 0))) ∧ Aside0 (IsS142 w wc gb296 l0 t302 t303) ∧ Aside0 (Below w.heap.size w wc))
   case first =>
    have H := HC10.out
    clear HC10
    by_cases c20 : t297 = 1
    case neg =>
     rw [if_neg c20] at H
     have c20b0 : (t297 == 1) = false := beq_eq_false_iff_ne.mpr c20
     have c20b1 : (t297 != 1) = true := bne_iff_ne.mpr c20
     (first | rw [c20b0] | (simp only [i64_w, i32_w]; rw [c20b0]) | skip)
     by_cases c38 : t297 = 3
     case neg =>
      rw [if_neg c38] at H
      have c38b0 : (t297 == 3) = false := beq_eq_false_iff_ne.mpr c38
      have c38b1 : (t297 != 3) = true := bne_iff_ne.mpr c38
      have H' := aM H
      clear H
      go_wp2
      go_meet
      case rel => exact ⟨_, _, _, (0), (0), (0), (0), (0), (false), H', ⟨by have := HJ2.out; first | omega | exact Nat.le_refl _⟩, ⟨by (with_reducible repeat (first | refine blk_drewN ?_ _ | refine blk_drew ?_ | refine blk_alloc ?_ _)); refine blk_far ?_ NB295_300.out _; (with_reducible repeat (first | refine blk_drewN ?_ _ | refine blk_drew ?_ | refine blk_alloc ?_ _)); exact BK295.out⟩, ⟨by (with_reducible repeat (first | refine blk_drewN ?_ _ | refine blk_drew ?_ | refine blk_alloc ?_ _)); refine blk_put (cs := #[.int .i64 t297, .int .i64 0, .int .i64 0, .int .i64 0, .int .i64 0, .int .i64 0, .int .i64 0, .bool false]) ?_ 1 _ rfl; (with_reducible repeat (first | refine blk_drewN ?_ _ | refine blk_drew ?_ | refine blk_alloc ?_ _)); exact BK300.out⟩, ⟨by repeat (first | (with_reducible first | exact HI296.out | apply IsS142.alloc | apply IsS142.drewN | apply IsS142.drew | apply IsS142.set_1 | apply IsS142.set_2 | apply IsS142.put_0 (hx_ := ⟨HR0.out, HC0.out⟩) | refine IsS142.far ?_ NB296_295.out _ | refine IsS142.far ?_ NB296_300.out _) | exact HI296.out)⟩, ⟨by repeat (first | (with_reducible first | exact HB.out | apply below_alloc | apply pw_below_drewN | apply below_drew1 | refine below_set ?_ (IsS142.ge HI296.out) | refine below_set ?_ GE295.out | refine below_set ?_ GE300.out) | exact HB.out)⟩⟩
     rw [if_pos c38] at H
     have c38b0 : (t297 == 3) = true := beq_iff_eq.mpr c38
     have c38b1 : (t297 != 3) = false := bne_eq_false_iff_eq.mpr c38
     clear c38
     replace H := Option.bind_eq_some_iff.mp H
     obtain ⟨⟨t319, t320, t321⟩, A390, H⟩ := H
     replace H : (impl_InOf.j1 kj2 l0 a1 l0 t320 t321 t297 t301 0 0 0 0 0 (t319 == 1)) = some (r1, r2, r3, r4, r5, r6, r7, r8, r9, r10) := H
     have A39 := aM A390
     clear A390
     have H' := aM H
     clear H
     go_wp2_with (first | ((with_reducible refine gate_callee (f := 115) rfl ?_); refine goesL_ (some 46) rfl rfl Try.func115 (by kernel_rfl) rfl #[.pointer (some ⟨gb296, 0, none⟩)] rfl xR ?_; (with_reducible refine (impl_reader_num.calls kj2 gb296 l0 t302 t303 t319 t320 t321 w _ ?side1 ?side2 A39.out).mono ?_); (case side1 => repeat (first | (with_reducible first | exact HI296.out | apply IsS142.alloc | apply IsS142.drewN | apply IsS142.drew | apply IsS142.set_1 | apply IsS142.set_2 | apply IsS142.put_0 (hx_ := ⟨HR0.out, HC0.out⟩) | refine IsS142.far ?_ NB296_295.out _ | refine IsS142.far ?_ NB296_300.out _) | exact HI296.out)); (case side2 => repeat (first | (with_reducible first | exact HB.out | apply below_alloc | apply pw_below_drewN | apply below_drew1 | refine below_set ?_ (IsS142.ge HI296.out) | refine below_set ?_ GE295.out | refine below_set ?_ GE300.out) | exact HB.out)); rintro e w40 ⟨rfl, hi, hb, hk⟩; refine ⟨_, rfl, ?_⟩; have n0_ := aM (KeepBut.blk hk (g' := gb295) (o := .cells #[.int .i64 0, .int .i64 0, .int .i64 0, .int .i64 0, .int .i64 0, .int .i64 0, .int .i64 0, .bool false] 82 (0, 0)) (by (with_reducible repeat (first | refine blk_drewN ?_ _ | refine blk_drew ?_ | refine blk_alloc ?_ _)); refine blk_far ?_ NB295_300.out _; (with_reducible repeat (first | refine blk_drewN ?_ _ | refine blk_drew ?_ | refine blk_alloc ?_ _)); exact BK295.out) NB295_296.out (by simp)); have n1_ := aM (KeepBut.blk hk (g' := gb300) (o := .cells #[.int .i64 t297, .int .i64 t301, .int .i64 0, .int .i64 0, .int .i64 0, .int .i64 0, .int .i64 0, .bool false] 82 (0, 0)) (by (with_reducible repeat (first | refine blk_drewN ?_ _ | refine blk_drew ?_ | refine blk_alloc ?_ _)); refine blk_put (cs := #[.int .i64 t297, .int .i64 0, .int .i64 0, .int .i64 0, .int .i64 0, .int .i64 0, .int .i64 0, .bool false]) ?_ 1 _ rfl; (with_reducible repeat (first | refine blk_drewN ?_ _ | refine blk_drew ?_ | refine blk_alloc ?_ _)); exact BK300.out) NB300_296.out (by simp)); have n2_ := aM (hb); have n3_ := aM (hi); clear BK295 BK300; clear HB HI296; have BK295 := n0_; have BK300 := n1_; have HB := n2_; have HI296 := n3_; clear n0_ n1_ n2_ n3_; (try clear hb); (try clear hk); (try clear hi); have hnb41 := NB300_295.out; have hnc41 := NB295_300.out; have hnb42 := NB300_296.out; have hnc42 := NB296_300.out; have hcz43_0 := cI BK300.out 0; have hcz43_1 := cI BK300.out 1; have hcz43_2 := cI BK300.out 2; have hcz43_3 := cI BK300.out 3; have hcz43_4 := cI BK300.out 4; have hcz43_5 := cI BK300.out 5; have hcz43_6 := cI BK300.out 6; have hcz43_7 := cI BK300.out 7; have hfz43_0 := bF BK300.out 0; have hfz43_1 := bF BK300.out 1; have hfz43_2 := bF BK300.out 2; have hfz43_3 := bF BK300.out 3; have hfz43_4 := bF BK300.out 4; have hfz43_5 := bF BK300.out 5; have hfz43_6 := bF BK300.out 6; have hfz43_7 := bF BK300.out 7))
     go_meet
     case rel => exact ⟨_, _, _, (0), (0), (0), (0), (0), ((t319 == 1)), H', ⟨by have := HJ2.out; first | omega | exact Nat.le_refl _⟩, ⟨by (with_reducible repeat (first | refine blk_drewN ?_ _ | refine blk_drew ?_ | refine blk_alloc ?_ _)); refine blk_far ?_ NB295_300.out _; (with_reducible repeat (first | refine blk_drewN ?_ _ | refine blk_drew ?_ | refine blk_alloc ?_ _)); exact BK295.out⟩, ⟨by (with_reducible repeat (first | refine blk_drewN ?_ _ | refine blk_drew ?_ | refine blk_alloc ?_ _)); refine blk_put (cs := #[.int .i64 t297, .int .i64 t301, .int .i64 0, .int .i64 0, .int .i64 0, .int .i64 0, .int .i64 0, .bool false]) ?_ 7 _ rfl; (with_reducible repeat (first | refine blk_drewN ?_ _ | refine blk_drew ?_ | refine blk_alloc ?_ _)); exact BK300.out⟩, ⟨by repeat (first | (with_reducible first | exact HI296.out | apply IsS142.alloc | apply IsS142.drewN | apply IsS142.drew | apply IsS142.set_1 | apply IsS142.set_2 | apply IsS142.put_0 (hx_ := ⟨HR0.out, HC0.out⟩) | refine IsS142.far ?_ NB296_295.out _ | refine IsS142.far ?_ NB296_300.out _) | exact HI296.out)⟩, ⟨by repeat (first | (with_reducible first | exact HB.out | apply below_alloc | apply pw_below_drewN | apply below_drew1 | refine below_set ?_ (IsS142.ge HI296.out) | refine below_set ?_ GE295.out | refine below_set ?_ GE300.out) | exact HB.out)⟩⟩
    rw [if_pos c20] at H
    have c20b0 : (t297 == 1) = true := beq_iff_eq.mpr c20
    have c20b1 : (t297 != 1) = false := bne_eq_false_iff_eq.mpr c20
    clear c20
    (first | rw [c20b0] | (simp only [i64_w, i32_w]; rw [c20b0]) | skip)
    replace H := Option.bind_eq_some_iff.mp H
    obtain ⟨⟨t304, t305, t306⟩, A210, H⟩ := H
    replace H : ((impl_reader_num.f kj2 l0 t305 t306).bind fun bt307 => ((impl_reader_num.f kj2 l0 bt307.2.1 bt307.2.2).bind fun bt310 => ((impl_reader_num.f kj2 l0 bt310.2.1 bt310.2.2).bind fun bt313 => ((impl_reader_num.f kj2 l0 bt313.2.1 bt313.2.2).bind fun bt316 => (impl_InOf.j1 kj2 l0 a1 l0 bt316.2.1 bt316.2.2 t297 t301 t304 bt307.1 bt310.1 bt313.1 bt316.1 false))))) = some (r1, r2, r3, r4, r5, r6, r7, r8, r9, r10) := H
    have A21 := aM A210
    clear A210
    replace H := Option.bind_eq_some_iff.mp H
    obtain ⟨⟨t307, t308, t309⟩, A220, H⟩ := H
    replace H : ((impl_reader_num.f kj2 l0 t308 t309).bind fun bt310 => ((impl_reader_num.f kj2 l0 bt310.2.1 bt310.2.2).bind fun bt313 => ((impl_reader_num.f kj2 l0 bt313.2.1 bt313.2.2).bind fun bt316 => (impl_InOf.j1 kj2 l0 a1 l0 bt316.2.1 bt316.2.2 t297 t301 t304 t307 bt310.1 bt313.1 bt316.1 false)))) = some (r1, r2, r3, r4, r5, r6, r7, r8, r9, r10) := H
    have A22 := aM A220
    clear A220
    replace H := Option.bind_eq_some_iff.mp H
    obtain ⟨⟨t310, t311, t312⟩, A230, H⟩ := H
    replace H : ((impl_reader_num.f kj2 l0 t311 t312).bind fun bt313 => ((impl_reader_num.f kj2 l0 bt313.2.1 bt313.2.2).bind fun bt316 => (impl_InOf.j1 kj2 l0 a1 l0 bt316.2.1 bt316.2.2 t297 t301 t304 t307 t310 bt313.1 bt316.1 false))) = some (r1, r2, r3, r4, r5, r6, r7, r8, r9, r10) := H
    have A23 := aM A230
    clear A230
    replace H := Option.bind_eq_some_iff.mp H
    obtain ⟨⟨t313, t314, t315⟩, A240, H⟩ := H
    replace H : ((impl_reader_num.f kj2 l0 t314 t315).bind fun bt316 => (impl_InOf.j1 kj2 l0 a1 l0 bt316.2.1 bt316.2.2 t297 t301 t304 t307 t310 t313 bt316.1 false)) = some (r1, r2, r3, r4, r5, r6, r7, r8, r9, r10) := H
    have A24 := aM A240
    clear A240
    replace H := Option.bind_eq_some_iff.mp H
    obtain ⟨⟨t316, t317, t318⟩, A250, H⟩ := H
    replace H : (impl_InOf.j1 kj2 l0 a1 l0 t317 t318 t297 t301 t304 t307 t310 t313 t316 false) = some (r1, r2, r3, r4, r5, r6, r7, r8, r9, r10) := H
    have A25 := aM A250
    clear A250
    have H' := aM H
    clear H
    go_wp2_with (first | ((with_reducible refine gate_callee (f := 115) rfl ?_); refine goesL_ (some 30) rfl rfl Try.func115 (by kernel_rfl) rfl #[.pointer (some ⟨gb296, 0, none⟩)] rfl xR ?_; (with_reducible refine (impl_reader_num.calls kj2 gb296 l0 t302 t303 t304 t305 t306 w _ ?side1 ?side2 A21.out).mono ?_); (case side1 => repeat (first | (with_reducible first | exact HI296.out | apply IsS142.alloc | apply IsS142.drewN | apply IsS142.drew | apply IsS142.set_1 | apply IsS142.set_2 | apply IsS142.put_0 (hx_ := ⟨HR0.out, HC0.out⟩) | refine IsS142.far ?_ NB296_295.out _ | refine IsS142.far ?_ NB296_300.out _) | exact HI296.out)); (case side2 => repeat (first | (with_reducible first | exact HB.out | apply below_alloc | apply pw_below_drewN | apply below_drew1 | refine below_set ?_ (IsS142.ge HI296.out) | refine below_set ?_ GE295.out | refine below_set ?_ GE300.out) | exact HB.out)); rintro e w26 ⟨rfl, hi, hb, hk⟩; refine ⟨_, rfl, ?_⟩; have n0_ := aM (KeepBut.blk hk (g' := gb295) (o := .cells #[.int .i64 0, .int .i64 0, .int .i64 0, .int .i64 0, .int .i64 0, .int .i64 0, .int .i64 0, .bool false] 82 (0, 0)) (by (with_reducible repeat (first | refine blk_drewN ?_ _ | refine blk_drew ?_ | refine blk_alloc ?_ _)); refine blk_far ?_ NB295_300.out _; (with_reducible repeat (first | refine blk_drewN ?_ _ | refine blk_drew ?_ | refine blk_alloc ?_ _)); exact BK295.out) NB295_296.out (by simp)); have n1_ := aM (KeepBut.blk hk (g' := gb300) (o := .cells #[.int .i64 t297, .int .i64 t301, .int .i64 0, .int .i64 0, .int .i64 0, .int .i64 0, .int .i64 0, .bool false] 82 (0, 0)) (by (with_reducible repeat (first | refine blk_drewN ?_ _ | refine blk_drew ?_ | refine blk_alloc ?_ _)); refine blk_put (cs := #[.int .i64 t297, .int .i64 0, .int .i64 0, .int .i64 0, .int .i64 0, .int .i64 0, .int .i64 0, .bool false]) ?_ 1 _ rfl; (with_reducible repeat (first | refine blk_drewN ?_ _ | refine blk_drew ?_ | refine blk_alloc ?_ _)); exact BK300.out) NB300_296.out (by simp)); have n2_ := aM (hb); have n3_ := aM (hi); clear BK295 BK300; clear HB HI296; have BK295 := n0_; have BK300 := n1_; have HB := n2_; have HI296 := n3_; clear n0_ n1_ n2_ n3_; (try clear hb); (try clear hk); (try clear hi); have hnb27 := NB300_295.out; have hnc27 := NB295_300.out; have hnb28 := NB300_296.out; have hnc28 := NB296_300.out; have hcz29_0 := cI BK300.out 0; have hcz29_1 := cI BK300.out 1; have hcz29_2 := cI BK300.out 2; have hcz29_3 := cI BK300.out 3; have hcz29_4 := cI BK300.out 4; have hcz29_5 := cI BK300.out 5; have hcz29_6 := cI BK300.out 6; have hcz29_7 := cI BK300.out 7; have hfz29_0 := bF BK300.out 0; have hfz29_1 := bF BK300.out 1; have hfz29_2 := bF BK300.out 2; have hfz29_3 := bF BK300.out 3; have hfz29_4 := bF BK300.out 4; have hfz29_5 := bF BK300.out 5; have hfz29_6 := bF BK300.out 6; have hfz29_7 := bF BK300.out 7) | ((with_reducible refine gate_callee (f := 115) rfl ?_); refine goesL_ (some 33) rfl rfl Try.func115 (by kernel_rfl) rfl #[.pointer (some ⟨gb296, 0, none⟩)] rfl xR ?_; (with_reducible refine (impl_reader_num.calls kj2 gb296 l0 t305 t306 t307 t308 t309 w _ ?side1 ?side2 A22.out).mono ?_); (case side1 => repeat (first | (with_reducible first | exact HI296.out | apply IsS142.alloc | apply IsS142.drewN | apply IsS142.drew | apply IsS142.set_1 | apply IsS142.set_2 | apply IsS142.put_0 (hx_ := ⟨HR0.out, HC0.out⟩) | refine IsS142.far ?_ NB296_295.out _ | refine IsS142.far ?_ NB296_300.out _) | exact HI296.out)); (case side2 => repeat (first | (with_reducible first | exact HB.out | apply below_alloc | apply pw_below_drewN | apply below_drew1 | refine below_set ?_ (IsS142.ge HI296.out) | refine below_set ?_ GE295.out | refine below_set ?_ GE300.out) | exact HB.out)); rintro e w30 ⟨rfl, hi, hb, hk⟩; refine ⟨_, rfl, ?_⟩; have n0_ := aM (KeepBut.blk hk (g' := gb295) (o := .cells #[.int .i64 0, .int .i64 0, .int .i64 0, .int .i64 0, .int .i64 0, .int .i64 0, .int .i64 0, .bool false] 82 (0, 0)) (by (with_reducible repeat (first | refine blk_drewN ?_ _ | refine blk_drew ?_ | refine blk_alloc ?_ _)); refine blk_far ?_ NB295_300.out _; (with_reducible repeat (first | refine blk_drewN ?_ _ | refine blk_drew ?_ | refine blk_alloc ?_ _)); exact BK295.out) NB295_296.out (by simp)); have n1_ := aM (KeepBut.blk hk (g' := gb300) (o := .cells #[.int .i64 t297, .int .i64 t301, .int .i64 t304, .int .i64 0, .int .i64 0, .int .i64 0, .int .i64 0, .bool false] 82 (0, 0)) (by (with_reducible repeat (first | refine blk_drewN ?_ _ | refine blk_drew ?_ | refine blk_alloc ?_ _)); refine blk_put (cs := #[.int .i64 t297, .int .i64 t301, .int .i64 0, .int .i64 0, .int .i64 0, .int .i64 0, .int .i64 0, .bool false]) ?_ 2 _ rfl; (with_reducible repeat (first | refine blk_drewN ?_ _ | refine blk_drew ?_ | refine blk_alloc ?_ _)); exact BK300.out) NB300_296.out (by simp)); have n2_ := aM (hb); have n3_ := aM (hi); clear BK295 BK300; clear HB HI296; have BK295 := n0_; have BK300 := n1_; have HB := n2_; have HI296 := n3_; clear n0_ n1_ n2_ n3_; (try clear hb); (try clear hk); (try clear hi); have hcz31_0 := cI BK300.out 0; have hcz31_1 := cI BK300.out 1; have hcz31_2 := cI BK300.out 2; have hcz31_3 := cI BK300.out 3; have hcz31_4 := cI BK300.out 4; have hcz31_5 := cI BK300.out 5; have hcz31_6 := cI BK300.out 6; have hcz31_7 := cI BK300.out 7; have hfz31_0 := bF BK300.out 0; have hfz31_1 := bF BK300.out 1; have hfz31_2 := bF BK300.out 2; have hfz31_3 := bF BK300.out 3; have hfz31_4 := bF BK300.out 4; have hfz31_5 := bF BK300.out 5; have hfz31_6 := bF BK300.out 6; have hfz31_7 := bF BK300.out 7) | ((with_reducible refine gate_callee (f := 115) rfl ?_); refine goesL_ (some 36) rfl rfl Try.func115 (by kernel_rfl) rfl #[.pointer (some ⟨gb296, 0, none⟩)] rfl xR ?_; (with_reducible refine (impl_reader_num.calls kj2 gb296 l0 t308 t309 t310 t311 t312 w _ ?side1 ?side2 A23.out).mono ?_); (case side1 => repeat (first | (with_reducible first | exact HI296.out | apply IsS142.alloc | apply IsS142.drewN | apply IsS142.drew | apply IsS142.set_1 | apply IsS142.set_2 | apply IsS142.put_0 (hx_ := ⟨HR0.out, HC0.out⟩) | refine IsS142.far ?_ NB296_295.out _ | refine IsS142.far ?_ NB296_300.out _) | exact HI296.out)); (case side2 => repeat (first | (with_reducible first | exact HB.out | apply below_alloc | apply pw_below_drewN | apply below_drew1 | refine below_set ?_ (IsS142.ge HI296.out) | refine below_set ?_ GE295.out | refine below_set ?_ GE300.out) | exact HB.out)); rintro e w32 ⟨rfl, hi, hb, hk⟩; refine ⟨_, rfl, ?_⟩; have n0_ := aM (KeepBut.blk hk (g' := gb295) (o := .cells #[.int .i64 0, .int .i64 0, .int .i64 0, .int .i64 0, .int .i64 0, .int .i64 0, .int .i64 0, .bool false] 82 (0, 0)) (by (with_reducible repeat (first | refine blk_drewN ?_ _ | refine blk_drew ?_ | refine blk_alloc ?_ _)); refine blk_far ?_ NB295_300.out _; (with_reducible repeat (first | refine blk_drewN ?_ _ | refine blk_drew ?_ | refine blk_alloc ?_ _)); exact BK295.out) NB295_296.out (by simp)); have n1_ := aM (KeepBut.blk hk (g' := gb300) (o := .cells #[.int .i64 t297, .int .i64 t301, .int .i64 t304, .int .i64 t307, .int .i64 0, .int .i64 0, .int .i64 0, .bool false] 82 (0, 0)) (by (with_reducible repeat (first | refine blk_drewN ?_ _ | refine blk_drew ?_ | refine blk_alloc ?_ _)); refine blk_put (cs := #[.int .i64 t297, .int .i64 t301, .int .i64 t304, .int .i64 0, .int .i64 0, .int .i64 0, .int .i64 0, .bool false]) ?_ 3 _ rfl; (with_reducible repeat (first | refine blk_drewN ?_ _ | refine blk_drew ?_ | refine blk_alloc ?_ _)); exact BK300.out) NB300_296.out (by simp)); have n2_ := aM (hb); have n3_ := aM (hi); clear BK295 BK300; clear HB HI296; have BK295 := n0_; have BK300 := n1_; have HB := n2_; have HI296 := n3_; clear n0_ n1_ n2_ n3_; (try clear hb); (try clear hk); (try clear hi); have hcz33_0 := cI BK300.out 0; have hcz33_1 := cI BK300.out 1; have hcz33_2 := cI BK300.out 2; have hcz33_3 := cI BK300.out 3; have hcz33_4 := cI BK300.out 4; have hcz33_5 := cI BK300.out 5; have hcz33_6 := cI BK300.out 6; have hcz33_7 := cI BK300.out 7; have hfz33_0 := bF BK300.out 0; have hfz33_1 := bF BK300.out 1; have hfz33_2 := bF BK300.out 2; have hfz33_3 := bF BK300.out 3; have hfz33_4 := bF BK300.out 4; have hfz33_5 := bF BK300.out 5; have hfz33_6 := bF BK300.out 6; have hfz33_7 := bF BK300.out 7) | ((with_reducible refine gate_callee (f := 115) rfl ?_); refine goesL_ (some 39) rfl rfl Try.func115 (by kernel_rfl) rfl #[.pointer (some ⟨gb296, 0, none⟩)] rfl xR ?_; (with_reducible refine (impl_reader_num.calls kj2 gb296 l0 t311 t312 t313 t314 t315 w _ ?side1 ?side2 A24.out).mono ?_); (case side1 => repeat (first | (with_reducible first | exact HI296.out | apply IsS142.alloc | apply IsS142.drewN | apply IsS142.drew | apply IsS142.set_1 | apply IsS142.set_2 | apply IsS142.put_0 (hx_ := ⟨HR0.out, HC0.out⟩) | refine IsS142.far ?_ NB296_295.out _ | refine IsS142.far ?_ NB296_300.out _) | exact HI296.out)); (case side2 => repeat (first | (with_reducible first | exact HB.out | apply below_alloc | apply pw_below_drewN | apply below_drew1 | refine below_set ?_ (IsS142.ge HI296.out) | refine below_set ?_ GE295.out | refine below_set ?_ GE300.out) | exact HB.out)); rintro e w34 ⟨rfl, hi, hb, hk⟩; refine ⟨_, rfl, ?_⟩; have n0_ := aM (KeepBut.blk hk (g' := gb295) (o := .cells #[.int .i64 0, .int .i64 0, .int .i64 0, .int .i64 0, .int .i64 0, .int .i64 0, .int .i64 0, .bool false] 82 (0, 0)) (by (with_reducible repeat (first | refine blk_drewN ?_ _ | refine blk_drew ?_ | refine blk_alloc ?_ _)); refine blk_far ?_ NB295_300.out _; (with_reducible repeat (first | refine blk_drewN ?_ _ | refine blk_drew ?_ | refine blk_alloc ?_ _)); exact BK295.out) NB295_296.out (by simp)); have n1_ := aM (KeepBut.blk hk (g' := gb300) (o := .cells #[.int .i64 t297, .int .i64 t301, .int .i64 t304, .int .i64 t307, .int .i64 t310, .int .i64 0, .int .i64 0, .bool false] 82 (0, 0)) (by (with_reducible repeat (first | refine blk_drewN ?_ _ | refine blk_drew ?_ | refine blk_alloc ?_ _)); refine blk_put (cs := #[.int .i64 t297, .int .i64 t301, .int .i64 t304, .int .i64 t307, .int .i64 0, .int .i64 0, .int .i64 0, .bool false]) ?_ 4 _ rfl; (with_reducible repeat (first | refine blk_drewN ?_ _ | refine blk_drew ?_ | refine blk_alloc ?_ _)); exact BK300.out) NB300_296.out (by simp)); have n2_ := aM (hb); have n3_ := aM (hi); clear BK295 BK300; clear HB HI296; have BK295 := n0_; have BK300 := n1_; have HB := n2_; have HI296 := n3_; clear n0_ n1_ n2_ n3_; (try clear hb); (try clear hk); (try clear hi); have hcz35_0 := cI BK300.out 0; have hcz35_1 := cI BK300.out 1; have hcz35_2 := cI BK300.out 2; have hcz35_3 := cI BK300.out 3; have hcz35_4 := cI BK300.out 4; have hcz35_5 := cI BK300.out 5; have hcz35_6 := cI BK300.out 6; have hcz35_7 := cI BK300.out 7; have hfz35_0 := bF BK300.out 0; have hfz35_1 := bF BK300.out 1; have hfz35_2 := bF BK300.out 2; have hfz35_3 := bF BK300.out 3; have hfz35_4 := bF BK300.out 4; have hfz35_5 := bF BK300.out 5; have hfz35_6 := bF BK300.out 6; have hfz35_7 := bF BK300.out 7) | ((with_reducible refine gate_callee (f := 115) rfl ?_); refine goesL_ (some 42) rfl rfl Try.func115 (by kernel_rfl) rfl #[.pointer (some ⟨gb296, 0, none⟩)] rfl xR ?_; (with_reducible refine (impl_reader_num.calls kj2 gb296 l0 t314 t315 t316 t317 t318 w _ ?side1 ?side2 A25.out).mono ?_); (case side1 => repeat (first | (with_reducible first | exact HI296.out | apply IsS142.alloc | apply IsS142.drewN | apply IsS142.drew | apply IsS142.set_1 | apply IsS142.set_2 | apply IsS142.put_0 (hx_ := ⟨HR0.out, HC0.out⟩) | refine IsS142.far ?_ NB296_295.out _ | refine IsS142.far ?_ NB296_300.out _) | exact HI296.out)); (case side2 => repeat (first | (with_reducible first | exact HB.out | apply below_alloc | apply pw_below_drewN | apply below_drew1 | refine below_set ?_ (IsS142.ge HI296.out) | refine below_set ?_ GE295.out | refine below_set ?_ GE300.out) | exact HB.out)); rintro e w36 ⟨rfl, hi, hb, hk⟩; refine ⟨_, rfl, ?_⟩; have n0_ := aM (KeepBut.blk hk (g' := gb295) (o := .cells #[.int .i64 0, .int .i64 0, .int .i64 0, .int .i64 0, .int .i64 0, .int .i64 0, .int .i64 0, .bool false] 82 (0, 0)) (by (with_reducible repeat (first | refine blk_drewN ?_ _ | refine blk_drew ?_ | refine blk_alloc ?_ _)); refine blk_far ?_ NB295_300.out _; (with_reducible repeat (first | refine blk_drewN ?_ _ | refine blk_drew ?_ | refine blk_alloc ?_ _)); exact BK295.out) NB295_296.out (by simp)); have n1_ := aM (KeepBut.blk hk (g' := gb300) (o := .cells #[.int .i64 t297, .int .i64 t301, .int .i64 t304, .int .i64 t307, .int .i64 t310, .int .i64 t313, .int .i64 0, .bool false] 82 (0, 0)) (by (with_reducible repeat (first | refine blk_drewN ?_ _ | refine blk_drew ?_ | refine blk_alloc ?_ _)); refine blk_put (cs := #[.int .i64 t297, .int .i64 t301, .int .i64 t304, .int .i64 t307, .int .i64 t310, .int .i64 0, .int .i64 0, .bool false]) ?_ 5 _ rfl; (with_reducible repeat (first | refine blk_drewN ?_ _ | refine blk_drew ?_ | refine blk_alloc ?_ _)); exact BK300.out) NB300_296.out (by simp)); have n2_ := aM (hb); have n3_ := aM (hi); clear BK295 BK300; clear HB HI296; have BK295 := n0_; have BK300 := n1_; have HB := n2_; have HI296 := n3_; clear n0_ n1_ n2_ n3_; (try clear hb); (try clear hk); (try clear hi); have hcz37_0 := cI BK300.out 0; have hcz37_1 := cI BK300.out 1; have hcz37_2 := cI BK300.out 2; have hcz37_3 := cI BK300.out 3; have hcz37_4 := cI BK300.out 4; have hcz37_5 := cI BK300.out 5; have hcz37_6 := cI BK300.out 6; have hcz37_7 := cI BK300.out 7; have hfz37_0 := bF BK300.out 0; have hfz37_1 := bF BK300.out 1; have hfz37_2 := bF BK300.out 2; have hfz37_3 := bF BK300.out 3; have hfz37_4 := bF BK300.out 4; have hfz37_5 := bF BK300.out 5; have hfz37_6 := bF BK300.out 6; have hfz37_7 := bF BK300.out 7))
    go_meet
    case rel => exact ⟨_, _, _, (t304), (t307), (t310), (t313), (t316), (false), H', ⟨by have := HJ2.out; first | omega | exact Nat.le_refl _⟩, ⟨by (with_reducible repeat (first | refine blk_drewN ?_ _ | refine blk_drew ?_ | refine blk_alloc ?_ _)); refine blk_far ?_ NB295_300.out _; (with_reducible repeat (first | refine blk_drewN ?_ _ | refine blk_drew ?_ | refine blk_alloc ?_ _)); exact BK295.out⟩, ⟨by (with_reducible repeat (first | refine blk_drewN ?_ _ | refine blk_drew ?_ | refine blk_alloc ?_ _)); refine blk_put (cs := #[.int .i64 t297, .int .i64 t301, .int .i64 t304, .int .i64 t307, .int .i64 t310, .int .i64 t313, .int .i64 0, .bool false]) ?_ 6 _ rfl; (with_reducible repeat (first | refine blk_drewN ?_ _ | refine blk_drew ?_ | refine blk_alloc ?_ _)); exact BK300.out⟩, ⟨by repeat (first | (with_reducible first | exact HI296.out | apply IsS142.alloc | apply IsS142.drewN | apply IsS142.drew | apply IsS142.set_1 | apply IsS142.set_2 | apply IsS142.put_0 (hx_ := ⟨HR0.out, HC0.out⟩) | refine IsS142.far ?_ NB296_295.out _ | refine IsS142.far ?_ NB296_300.out _) | exact HI296.out)⟩, ⟨by repeat (first | (with_reducible first | exact HB.out | apply below_alloc | apply pw_below_drewN | apply below_drew1 | refine below_set ?_ (IsS142.ge HI296.out) | refine below_set ?_ GE295.out | refine below_set ?_ GE300.out) | exact HB.out)⟩⟩
   case rest =>
    clear HC10
    try clear c1
    try clear c2
    try clear p2
    try clear c3
    try clear c4
    try clear c5
    try clear c5b0
    try clear c6
    try clear c11
    try clear c15
    try clear c16
    try clear c20
    try clear c20b0
    try clear c20b1
    try clear c27
    try clear c28
    try clear c38
    try clear c38b0
    try clear c38b1
    try clear c41
    try clear c42
    try clear hcz12_0
    try clear hcz12_1
    try clear hcz12_2
    try clear hcz17_0
    try clear hcz17_1
    try clear hcz17_2
    try clear hcz17_3
    try clear hcz17_4
    try clear hcz17_5
    try clear hcz17_6
    try clear hcz17_7
    try clear hcz19_0
    try clear hcz19_1
    try clear hcz19_2
    try clear hcz19_3
    try clear hcz19_4
    try clear hcz19_5
    try clear hcz19_6
    try clear hcz19_7
    try clear hcz29_0
    try clear hcz29_1
    try clear hcz29_2
    try clear hcz29_3
    try clear hcz29_4
    try clear hcz29_5
    try clear hcz29_6
    try clear hcz29_7
    try clear hcz31_0
    try clear hcz31_1
    try clear hcz31_2
    try clear hcz31_3
    try clear hcz31_4
    try clear hcz31_5
    try clear hcz31_6
    try clear hcz31_7
    try clear hcz33_0
    try clear hcz33_1
    try clear hcz33_2
    try clear hcz33_3
    try clear hcz33_4
    try clear hcz33_5
    try clear hcz33_6
    try clear hcz33_7
    try clear hcz35_0
    try clear hcz35_1
    try clear hcz35_2
    try clear hcz35_3
    try clear hcz35_4
    try clear hcz35_5
    try clear hcz35_6
    try clear hcz35_7
    try clear hcz37_0
    try clear hcz37_1
    try clear hcz37_2
    try clear hcz37_3
    try clear hcz37_4
    try clear hcz37_5
    try clear hcz37_6
    try clear hcz37_7
    try clear hcz43_0
    try clear hcz43_1
    try clear hcz43_2
    try clear hcz43_3
    try clear hcz43_4
    try clear hcz43_5
    try clear hcz43_6
    try clear hcz43_7
    try clear hcz7_0
    try clear hcz7_1
    try clear hcz7_2
    try clear hcz7_3
    try clear hcz7_4
    try clear hcz7_5
    try clear hcz7_6
    try clear hcz7_7
    try clear hfz12_0
    try clear hfz12_1
    try clear hfz12_2
    try clear hfz17_0
    try clear hfz17_1
    try clear hfz17_2
    try clear hfz17_3
    try clear hfz17_4
    try clear hfz17_5
    try clear hfz17_6
    try clear hfz17_7
    try clear hfz19_0
    try clear hfz19_1
    try clear hfz19_2
    try clear hfz19_3
    try clear hfz19_4
    try clear hfz19_5
    try clear hfz19_6
    try clear hfz19_7
    try clear hfz29_0
    try clear hfz29_1
    try clear hfz29_2
    try clear hfz29_3
    try clear hfz29_4
    try clear hfz29_5
    try clear hfz29_6
    try clear hfz29_7
    try clear hfz31_0
    try clear hfz31_1
    try clear hfz31_2
    try clear hfz31_3
    try clear hfz31_4
    try clear hfz31_5
    try clear hfz31_6
    try clear hfz31_7
    try clear hfz33_0
    try clear hfz33_1
    try clear hfz33_2
    try clear hfz33_3
    try clear hfz33_4
    try clear hfz33_5
    try clear hfz33_6
    try clear hfz33_7
    try clear hfz35_0
    try clear hfz35_1
    try clear hfz35_2
    try clear hfz35_3
    try clear hfz35_4
    try clear hfz35_5
    try clear hfz35_6
    try clear hfz35_7
    try clear hfz37_0
    try clear hfz37_1
    try clear hfz37_2
    try clear hfz37_3
    try clear hfz37_4
    try clear hfz37_5
    try clear hfz37_6
    try clear hfz37_7
    try clear hfz43_0
    try clear hfz43_1
    try clear hfz43_2
    try clear hfz43_3
    try clear hfz43_4
    try clear hfz43_5
    try clear hfz43_6
    try clear hfz43_7
    try clear hfz7_0
    try clear hfz7_1
    try clear hfz7_2
    try clear hfz7_3
    try clear hfz7_4
    try clear hfz7_5
    try clear hfz7_6
    try clear hfz7_7
    try clear p2
    obtain ⟨kq, t302, t303, x301002_9, x301003_9, x301004_9, x301005_9, x301006_9, x301007_9, HA, HJ9, BK295, BK300, HI296, HB⟩ := hcut
    cases kq with
    | zero => exact absurd HA.out (by simp [impl_InOf.j1])
    | succ kj9 =>
     have H := HA.out
     clear HA
     simp only [impl_InOf.j1] at H
     replace H := Option.bind_eq_some_iff.mp H
     obtain ⟨t322, A440, H⟩ := H
     replace H : (if t303 = true then (some (0, 0, 0, 0, 0, 0, 0, false, 0, false)) else (if (t322.length : Int) = 0 then (some (0, 0, 0, 0, 0, 0, 0, false, 0, false)) else (if 0 ≤ a1 then (if a1 ≤ (l0.length : Int) then ((bytes_HasPrefix.f (l0.drop (a1 : Int).toNat) t322).bind fun t326 => (if t326 = true then (some (t297, t301, x301002_9, x301003_9, x301004_9, x301005_9, x301006_9, x301007_9, wrap64 (a1 + (t322.length : Int)), true)) else (some (0, 0, 0, 0, 0, 0, 0, false, 0, false)))) else (none)) else (none)))) = some (r1, r2, r3, r4, r5, r6, r7, r8, r9, r10) := H
     have A44 := aM A440
     clear A440
     by_cases c45 : t303 = true
     case pos =>
      subst c45
      have H1 : (some (0, 0, 0, 0, 0, 0, 0, false, 0, false)) = some (r1, r2, r3, r4, r5, r6, r7, r8, r9, r10) := by rw [if_pos rfl] at H; exact H
      clear H
      have H := H1
      clear H1
      simp only [Option.some.injEq, Prod.mk.injEq] at H
      obtain ⟨rfl, rfl, rfl, rfl, rfl, rfl, rfl, rfl, rfl, rfl⟩ := H
      have hnb46 := NB300_295.out
      have hnc46 := NB295_300.out
      have hnb47 := NB300_296.out
      have hnc47 := NB296_300.out
      have hcz48_0 := cI BK300.out 0
      have hcz48_1 := cI BK300.out 1
      have hcz48_2 := cI BK300.out 2
      have hcz48_3 := cI BK300.out 3
      have hcz48_4 := cI BK300.out 4
      have hcz48_5 := cI BK300.out 5
      have hcz48_6 := cI BK300.out 6
      have hcz48_7 := cI BK300.out 7
      have hfz48_0 := bF BK300.out 0
      have hfz48_1 := bF BK300.out 1
      have hfz48_2 := bF BK300.out 2
      have hfz48_3 := bF BK300.out 3
      have hfz48_4 := bF BK300.out 4
      have hfz48_5 := bF BK300.out 5
      have hfz48_6 := bF BK300.out 6
      have hfz48_7 := bF BK300.out 7
      go_wp2_with (first | ((with_reducible refine gate_callee (f := 98) rfl ?_); refine goesL_ (some 50) rfl rfl Try.func98 (by kernel_rfl) rfl #[.agg #[.int .i64 t297, .int .i64 t301, .int .i64 x301002_9, .int .i64 x301003_9, .int .i64 x301004_9, .int .i64 x301005_9, .int .i64 x301006_9, .bool x301007_9]] rfl xR ?_; (with_reducible refine (impl_InBytes.calls kj9 t297 t301 x301002_9 x301003_9 x301004_9 x301005_9 x301006_9 x301007_9 t322 _ A44.out).mono ?_); rintro e w49 ⟨v323, rfl, ho0, hb⟩; refine ⟨_, rfl, ?_⟩; have n0_ := aM (Kd.R_lower ho0 (below_size (by repeat (first | (with_reducible first | exact HB.out | apply below_alloc | apply pw_below_drewN | apply below_drew1 | refine below_set ?_ (IsS142.ge HI296.out) | refine below_set ?_ GE295.out | refine below_set ?_ GE300.out) | exact HB.out)))); have n1_ := aM (bB (g := gb295) (o := .cells #[.int .i64 0, .int .i64 0, .int .i64 0, .int .i64 0, .int .i64 0, .int .i64 0, .int .i64 0, .bool false] 82 (0, 0)) (bk BK295.out) hb); have n2_ := aM (bB (g := gb300) (o := .cells #[.int .i64 t297, .int .i64 t301, .int .i64 x301002_9, .int .i64 x301003_9, .int .i64 x301004_9, .int .i64 x301005_9, .int .i64 x301006_9, .bool x301007_9] 82 (0, 0)) (bk BK300.out) hb); have n3_ := aM (IsS142.below (by repeat (first | (with_reducible first | exact HI296.out | apply IsS142.alloc | apply IsS142.drewN | apply IsS142.drew | apply IsS142.set_1 | apply IsS142.set_2 | apply IsS142.put_0 (hx_ := ⟨HR0.out, HC0.out⟩) | refine IsS142.far ?_ NB296_295.out _ | refine IsS142.far ?_ NB296_300.out _) | exact HI296.out)) hb); have n4_ := aM (bS (by repeat (first | (with_reducible first | exact HB.out | apply below_alloc | apply pw_below_drewN | apply below_drew1 | refine below_set ?_ (IsS142.ge HI296.out) | refine below_set ?_ GE295.out | refine below_set ?_ GE300.out) | exact HB.out)) hb); clear BK295 BK300; clear HI296 HB; have HO324 := n0_; have BK295 := n1_; have BK300 := n2_; have HI296 := n3_; have HB := n4_; clear n0_ n1_ n2_ n3_ n4_; (try clear hb); (try clear ho0); obtain ⟨ASz50_0, cSz50_0, HGz50, hgz50, HSz50_0⟩ := HI296.out; have hcz50_0 := cellS142_0 HGz50; have hcz50_1 := cellS142_1 HGz50; have hcz50_2 := cellS142_2 HGz50; have hfz50_0 := bF HGz50 0; have hfz50_1 := bF HGz50 1; have hfz50_2 := bF HGz50 2; clear HGz50 hgz50; have hnb51 := NB295_296.out; have hnc51 := NB296_295.out; have hcz52_0 := cI BK295.out 0; have hcz52_1 := cI BK295.out 1; have hcz52_2 := cI BK295.out 2; have hcz52_3 := cI BK295.out 3; have hcz52_4 := cI BK295.out 4; have hcz52_5 := cI BK295.out 5; have hcz52_6 := cI BK295.out 6; have hcz52_7 := cI BK295.out 7; have hfz52_0 := bF BK295.out 0; have hfz52_1 := bF BK295.out 1; have hfz52_2 := bF BK295.out 2; have hfz52_3 := bF BK295.out 3; have hfz52_4 := bF BK295.out 4; have hfz52_5 := bF BK295.out 5; have hfz52_6 := bF BK295.out 6; have hfz52_7 := bF BK295.out 7))
      refine bodyPost_ret (results_ctt rfl _ _ gb295 82 #[.int .i64 0, .int .i64 0, .int .i64 0, .int .i64 0, .int .i64 0, .int .i64 0, .int .i64 0, .bool false] (0, 0) _ rfl (by (with_reducible repeat (first | refine blk_drewN ?_ _ | refine blk_drew ?_ | refine blk_alloc ?_ _)); refine blk_put (cs := #[.int .i64 0, .int .i64 0, .int .i64 0, .int .i64 0, .int .i64 0, .int .i64 0, .int .i64 0, .bool false]) ?_ 7 _ rfl; (with_reducible repeat (first | refine blk_drewN ?_ _ | refine blk_drew ?_ | refine blk_alloc ?_ _)); refine blk_put (cs := #[.int .i64 0, .int .i64 0, .int .i64 0, .int .i64 0, .int .i64 0, .int .i64 0, .int .i64 0, .bool false]) ?_ 6 _ rfl; (with_reducible repeat (first | refine blk_drewN ?_ _ | refine blk_drew ?_ | refine blk_alloc ?_ _)); refine blk_put (cs := #[.int .i64 0, .int .i64 0, .int .i64 0, .int .i64 0, .int .i64 0, .int .i64 0, .int .i64 0, .bool false]) ?_ 5 _ rfl; (with_reducible repeat (first | refine blk_drewN ?_ _ | refine blk_drew ?_ | refine blk_alloc ?_ _)); refine blk_put (cs := #[.int .i64 0, .int .i64 0, .int .i64 0, .int .i64 0, .int .i64 0, .int .i64 0, .int .i64 0, .bool false]) ?_ 4 _ rfl; (with_reducible repeat (first | refine blk_drewN ?_ _ | refine blk_drew ?_ | refine blk_alloc ?_ _)); refine blk_put (cs := #[.int .i64 0, .int .i64 0, .int .i64 0, .int .i64 0, .int .i64 0, .int .i64 0, .int .i64 0, .bool false]) ?_ 3 _ rfl; (with_reducible repeat (first | refine blk_drewN ?_ _ | refine blk_drew ?_ | refine blk_alloc ?_ _)); refine blk_put (cs := #[.int .i64 0, .int .i64 0, .int .i64 0, .int .i64 0, .int .i64 0, .int .i64 0, .int .i64 0, .bool false]) ?_ 2 _ rfl; (with_reducible repeat (first | refine blk_drewN ?_ _ | refine blk_drew ?_ | refine blk_alloc ?_ _)); refine blk_put (cs := #[.int .i64 0, .int .i64 0, .int .i64 0, .int .i64 0, .int .i64 0, .int .i64 0, .int .i64 0, .bool false]) ?_ 1 _ rfl; (with_reducible repeat (first | refine blk_drewN ?_ _ | refine blk_drew ?_ | refine blk_alloc ?_ _)); refine blk_put (cs := #[.int .i64 0, .int .i64 0, .int .i64 0, .int .i64 0, .int .i64 0, .int .i64 0, .int .i64 0, .bool false]) ?_ 0 _ rfl; (with_reducible repeat (first | refine blk_drewN ?_ _ | refine blk_drew ?_ | refine blk_alloc ?_ _)); exact BK295.out) Try.underlying82 rfl (by kernel_rfl)) rfl ?_
      exact ⟨xW, by repeat (first | (with_reducible first | exact HB.out | apply below_alloc | apply pw_below_drewN | apply below_drew1 | refine below_set ?_ (IsS142.ge HI296.out) | refine below_set ?_ GE295.out | refine below_set ?_ GE300.out) | exact HB.out)⟩
     replace c45 := Bool.eq_false_iff.mpr c45
     subst c45
     have H1 : (if (t322.length : Int) = 0 then (some (0, 0, 0, 0, 0, 0, 0, false, 0, false)) else (if 0 ≤ a1 then (if a1 ≤ (l0.length : Int) then ((bytes_HasPrefix.f (l0.drop (a1 : Int).toNat) t322).bind fun t326 => (if t326 = true then (some (t297, t301, x301002_9, x301003_9, x301004_9, x301005_9, x301006_9, x301007_9, wrap64 (a1 + (t322.length : Int)), true)) else (some (0, 0, 0, 0, 0, 0, 0, false, 0, false)))) else (none)) else (none))) = some (r1, r2, r3, r4, r5, r6, r7, r8, r9, r10) := by rw [if_neg (show ¬ (false = true) by decide)] at H; exact H
     clear H
     have H := H1
     clear H1
     by_cases c53 : (t322.length : Int) = 0
     case pos =>
      rw [if_pos c53] at H
      have c53b0 : ((t322.length : Int) == 0) = true := beq_iff_eq.mpr c53
      have c53b1 : ((t322.length : Int) != 0) = false := bne_eq_false_iff_eq.mpr c53
      clear c53
      simp only [Option.some.injEq, Prod.mk.injEq] at H
      obtain ⟨rfl, rfl, rfl, rfl, rfl, rfl, rfl, rfl, rfl, rfl⟩ := H
      have hnb54 := NB300_295.out
      have hnc54 := NB295_300.out
      have hnb55 := NB300_296.out
      have hnc55 := NB296_300.out
      have hcz56_0 := cI BK300.out 0
      have hcz56_1 := cI BK300.out 1
      have hcz56_2 := cI BK300.out 2
      have hcz56_3 := cI BK300.out 3
      have hcz56_4 := cI BK300.out 4
      have hcz56_5 := cI BK300.out 5
      have hcz56_6 := cI BK300.out 6
      have hcz56_7 := cI BK300.out 7
      have hfz56_0 := bF BK300.out 0
      have hfz56_1 := bF BK300.out 1
      have hfz56_2 := bF BK300.out 2
      have hfz56_3 := bF BK300.out 3
      have hfz56_4 := bF BK300.out 4
      have hfz56_5 := bF BK300.out 5
      have hfz56_6 := bF BK300.out 6
      have hfz56_7 := bF BK300.out 7
      go_wp2_with (first | ((with_reducible refine gate_callee (f := 98) rfl ?_); refine goesL_ (some 50) rfl rfl Try.func98 (by kernel_rfl) rfl #[.agg #[.int .i64 t297, .int .i64 t301, .int .i64 x301002_9, .int .i64 x301003_9, .int .i64 x301004_9, .int .i64 x301005_9, .int .i64 x301006_9, .bool x301007_9]] rfl xR ?_; (with_reducible refine (impl_InBytes.calls kj9 t297 t301 x301002_9 x301003_9 x301004_9 x301005_9 x301006_9 x301007_9 t322 _ A44.out).mono ?_); rintro e w57 ⟨v323, rfl, ho0, hb⟩; refine ⟨_, rfl, ?_⟩; have n0_ := aM (Kd.R_lower ho0 (below_size (by repeat (first | (with_reducible first | exact HB.out | apply below_alloc | apply pw_below_drewN | apply below_drew1 | refine below_set ?_ (IsS142.ge HI296.out) | refine below_set ?_ GE295.out | refine below_set ?_ GE300.out) | exact HB.out)))); have n1_ := aM (bB (g := gb295) (o := .cells #[.int .i64 0, .int .i64 0, .int .i64 0, .int .i64 0, .int .i64 0, .int .i64 0, .int .i64 0, .bool false] 82 (0, 0)) (bk BK295.out) hb); have n2_ := aM (bB (g := gb300) (o := .cells #[.int .i64 t297, .int .i64 t301, .int .i64 x301002_9, .int .i64 x301003_9, .int .i64 x301004_9, .int .i64 x301005_9, .int .i64 x301006_9, .bool x301007_9] 82 (0, 0)) (bk BK300.out) hb); have n3_ := aM (IsS142.below (by repeat (first | (with_reducible first | exact HI296.out | apply IsS142.alloc | apply IsS142.drewN | apply IsS142.drew | apply IsS142.set_1 | apply IsS142.set_2 | apply IsS142.put_0 (hx_ := ⟨HR0.out, HC0.out⟩) | refine IsS142.far ?_ NB296_295.out _ | refine IsS142.far ?_ NB296_300.out _) | exact HI296.out)) hb); have n4_ := aM (bS (by repeat (first | (with_reducible first | exact HB.out | apply below_alloc | apply pw_below_drewN | apply below_drew1 | refine below_set ?_ (IsS142.ge HI296.out) | refine below_set ?_ GE295.out | refine below_set ?_ GE300.out) | exact HB.out)) hb); clear BK295 BK300; clear HI296 HB; have HO324 := n0_; have BK295 := n1_; have BK300 := n2_; have HI296 := n3_; have HB := n4_; clear n0_ n1_ n2_ n3_ n4_; (try clear hb); (try clear ho0); obtain ⟨ASz58_0, cSz58_0, HGz58, hgz58, HSz58_0⟩ := HI296.out; have hcz58_0 := cellS142_0 HGz58; have hcz58_1 := cellS142_1 HGz58; have hcz58_2 := cellS142_2 HGz58; have hfz58_0 := bF HGz58 0; have hfz58_1 := bF HGz58 1; have hfz58_2 := bF HGz58 2; clear HGz58 hgz58; obtain ⟨Ao59, co59, eo59⟩ := Kd.R_slice HO324.out; subst eo59; have hnb60 := NB295_296.out; have hnc60 := NB296_295.out; have hcz61_0 := cI BK295.out 0; have hcz61_1 := cI BK295.out 1; have hcz61_2 := cI BK295.out 2; have hcz61_3 := cI BK295.out 3; have hcz61_4 := cI BK295.out 4; have hcz61_5 := cI BK295.out 5; have hcz61_6 := cI BK295.out 6; have hcz61_7 := cI BK295.out 7; have hfz61_0 := bF BK295.out 0; have hfz61_1 := bF BK295.out 1; have hfz61_2 := bF BK295.out 2; have hfz61_3 := bF BK295.out 3; have hfz61_4 := bF BK295.out 4; have hfz61_5 := bF BK295.out 5; have hfz61_6 := bF BK295.out 6; have hfz61_7 := bF BK295.out 7))
      refine bodyPost_ret (results_ctt rfl _ _ gb295 82 #[.int .i64 0, .int .i64 0, .int .i64 0, .int .i64 0, .int .i64 0, .int .i64 0, .int .i64 0, .bool false] (0, 0) _ rfl (by (with_reducible repeat (first | refine blk_drewN ?_ _ | refine blk_drew ?_ | refine blk_alloc ?_ _)); refine blk_put (cs := #[.int .i64 0, .int .i64 0, .int .i64 0, .int .i64 0, .int .i64 0, .int .i64 0, .int .i64 0, .bool false]) ?_ 7 _ rfl; (with_reducible repeat (first | refine blk_drewN ?_ _ | refine blk_drew ?_ | refine blk_alloc ?_ _)); refine blk_put (cs := #[.int .i64 0, .int .i64 0, .int .i64 0, .int .i64 0, .int .i64 0, .int .i64 0, .int .i64 0, .bool false]) ?_ 6 _ rfl; (with_reducible repeat (first | refine blk_drewN ?_ _ | refine blk_drew ?_ | refine blk_alloc ?_ _)); refine blk_put (cs := #[.int .i64 0, .int .i64 0, .int .i64 0, .int .i64 0, .int .i64 0, .int .i64 0, .int .i64 0, .bool false]) ?_ 5 _ rfl; (with_reducible repeat (first | refine blk_drewN ?_ _ | refine blk_drew ?_ | refine blk_alloc ?_ _)); refine blk_put (cs := #[.int .i64 0, .int .i64 0, .int .i64 0, .int .i64 0, .int .i64 0, .int .i64 0, .int .i64 0, .bool false]) ?_ 4 _ rfl; (with_reducible repeat (first | refine blk_drewN ?_ _ | refine blk_drew ?_ | refine blk_alloc ?_ _)); refine blk_put (cs := #[.int .i64 0, .int .i64 0, .int .i64 0, .int .i64 0, .int .i64 0, .int .i64 0, .int .i64 0, .bool false]) ?_ 3 _ rfl; (with_reducible repeat (first | refine blk_drewN ?_ _ | refine blk_drew ?_ | refine blk_alloc ?_ _)); refine blk_put (cs := #[.int .i64 0, .int .i64 0, .int .i64 0, .int .i64 0, .int .i64 0, .int .i64 0, .int .i64 0, .bool false]) ?_ 2 _ rfl; (with_reducible repeat (first | refine blk_drewN ?_ _ | refine blk_drew ?_ | refine blk_alloc ?_ _)); refine blk_put (cs := #[.int .i64 0, .int .i64 0, .int .i64 0, .int .i64 0, .int .i64 0, .int .i64 0, .int .i64 0, .bool false]) ?_ 1 _ rfl; (with_reducible repeat (first | refine blk_drewN ?_ _ | refine blk_drew ?_ | refine blk_alloc ?_ _)); refine blk_put (cs := #[.int .i64 0, .int .i64 0, .int .i64 0, .int .i64 0, .int .i64 0, .int .i64 0, .int .i64 0, .bool false]) ?_ 0 _ rfl; (with_reducible repeat (first | refine blk_drewN ?_ _ | refine blk_drew ?_ | refine blk_alloc ?_ _)); exact BK295.out) Try.underlying82 rfl (by kernel_rfl)) rfl ?_
      exact ⟨xW, by repeat (first | (with_reducible first | exact HB.out | apply below_alloc | apply pw_below_drewN | apply below_drew1 | refine below_set ?_ (IsS142.ge HI296.out) | refine below_set ?_ GE295.out | refine below_set ?_ GE300.out) | exact HB.out)⟩
     rw [if_neg c53] at H
     have c53b0 : ((t322.length : Int) == 0) = false := beq_eq_false_iff_ne.mpr c53
     have c53b1 : ((t322.length : Int) != 0) = true := bne_iff_ne.mpr c53
     have c53b2 : ¬ (t322 = []) := fun h_ => c53 (by rw [h_]; rfl)
     by_cases c62 : 0 ≤ a1
     case neg =>
      rw [if_neg c62] at H
      exact absurd H (by simp)
     rw [if_pos c62] at H
     have c62b0 := eq_true c62
     have c62b1 : decide (0 ≤ a1) = true := decide_eq_true c62
     clear c62
     by_cases c63 : a1 ≤ (l0.length : Int)
     case neg =>
      rw [if_neg c63] at H
      exact absurd H (by simp)
     rw [if_pos c63] at H
     have c63b0 := eq_true c63
     have c63b1 : decide (a1 ≤ (l0.length : Int)) = true := decide_eq_true c63
     clear c63
     replace H := Option.bind_eq_some_iff.mp H
     obtain ⟨t326, A640, H⟩ := H
     replace H : (if t326 = true then (some (t297, t301, x301002_9, x301003_9, x301004_9, x301005_9, x301006_9, x301007_9, wrap64 (a1 + (t322.length : Int)), true)) else (some (0, 0, 0, 0, 0, 0, 0, false, 0, false))) = some (r1, r2, r3, r4, r5, r6, r7, r8, r9, r10) := H
     have A64 := aM A640
     clear A640
     by_cases c65 : t326 = true
     case pos =>
      subst c65
      have H1 : (some (t297, t301, x301002_9, x301003_9, x301004_9, x301005_9, x301006_9, x301007_9, wrap64 (a1 + (t322.length : Int)), true)) = some (r1, r2, r3, r4, r5, r6, r7, r8, r9, r10) := by rw [if_pos rfl] at H; exact H
      clear H
      have H := H1
      clear H1
      simp only [Option.some.injEq, Prod.mk.injEq] at H
      obtain ⟨rfl, rfl, rfl, rfl, rfl, rfl, rfl, rfl, rfl, rfl⟩ := H
      have hnb66 := NB300_295.out
      have hnc66 := NB295_300.out
      have hnb67 := NB300_296.out
      have hnc67 := NB296_300.out
      have hcz68_0 := cI BK300.out 0
      have hcz68_1 := cI BK300.out 1
      have hcz68_2 := cI BK300.out 2
      have hcz68_3 := cI BK300.out 3
      have hcz68_4 := cI BK300.out 4
      have hcz68_5 := cI BK300.out 5
      have hcz68_6 := cI BK300.out 6
      have hcz68_7 := cI BK300.out 7
      have hfz68_0 := bF BK300.out 0
      have hfz68_1 := bF BK300.out 1
      have hfz68_2 := bF BK300.out 2
      have hfz68_3 := bF BK300.out 3
      have hfz68_4 := bF BK300.out 4
      have hfz68_5 := bF BK300.out 5
      have hfz68_6 := bF BK300.out 6
      have hfz68_7 := bF BK300.out 7
      go_wp2_with (first | ((with_reducible refine gate_callee (f := 98) rfl ?_); refine goesL_ (some 50) rfl rfl Try.func98 (by kernel_rfl) rfl #[.agg #[.int .i64 t297, .int .i64 t301, .int .i64 x301002_9, .int .i64 x301003_9, .int .i64 x301004_9, .int .i64 x301005_9, .int .i64 x301006_9, .bool x301007_9]] rfl xR ?_; (with_reducible refine (impl_InBytes.calls kj9 t297 t301 x301002_9 x301003_9 x301004_9 x301005_9 x301006_9 x301007_9 t322 _ A44.out).mono ?_); rintro e w69 ⟨v323, rfl, ho0, hb⟩; refine ⟨_, rfl, ?_⟩; have n0_ := aM (Kd.R_lower ho0 (below_size (by repeat (first | (with_reducible first | exact HB.out | apply below_alloc | apply pw_below_drewN | apply below_drew1 | refine below_set ?_ (IsS142.ge HI296.out) | refine below_set ?_ GE295.out | refine below_set ?_ GE300.out) | exact HB.out)))); have n1_ := aM (bB (g := gb295) (o := .cells #[.int .i64 0, .int .i64 0, .int .i64 0, .int .i64 0, .int .i64 0, .int .i64 0, .int .i64 0, .bool false] 82 (0, 0)) (bk BK295.out) hb); have n2_ := aM (bB (g := gb300) (o := .cells #[.int .i64 t297, .int .i64 t301, .int .i64 x301002_9, .int .i64 x301003_9, .int .i64 x301004_9, .int .i64 x301005_9, .int .i64 x301006_9, .bool x301007_9] 82 (0, 0)) (bk BK300.out) hb); have n3_ := aM (IsS142.below (by repeat (first | (with_reducible first | exact HI296.out | apply IsS142.alloc | apply IsS142.drewN | apply IsS142.drew | apply IsS142.set_1 | apply IsS142.set_2 | apply IsS142.put_0 (hx_ := ⟨HR0.out, HC0.out⟩) | refine IsS142.far ?_ NB296_295.out _ | refine IsS142.far ?_ NB296_300.out _) | exact HI296.out)) hb); have n4_ := aM (bS (by repeat (first | (with_reducible first | exact HB.out | apply below_alloc | apply pw_below_drewN | apply below_drew1 | refine below_set ?_ (IsS142.ge HI296.out) | refine below_set ?_ GE295.out | refine below_set ?_ GE300.out) | exact HB.out)) hb); clear BK295 BK300; clear HI296 HB; have HO324 := n0_; have BK295 := n1_; have BK300 := n2_; have HI296 := n3_; have HB := n4_; clear n0_ n1_ n2_ n3_ n4_; (try clear hb); (try clear ho0); obtain ⟨ASz70_0, cSz70_0, HGz70, hgz70, HSz70_0⟩ := HI296.out; have hcz70_0 := cellS142_0 HGz70; have hcz70_1 := cellS142_1 HGz70; have hcz70_2 := cellS142_2 HGz70; have hfz70_0 := bF HGz70 0; have hfz70_1 := bF HGz70 1; have hfz70_2 := bF HGz70 2; clear HGz70 hgz70; obtain ⟨Ao71, co71, eo71⟩ := Kd.R_slice HO324.out; subst eo71; obtain ⟨i072, hi072, _, hsz72, _⟩ := info_parts info5; obtain ⟨A72, hcut72, hA72, hC72⟩ := print_drop_of (P := Try.prog) (Value.int .u8) 0 22 5 .i64 Try.underlying22 hi072 hsz72 A0 c0 l0 a1 (of_decide_eq_true (by first | (with_reducible assumption) | assumption)) (of_decide_eq_true (by first | (with_reducible assumption) | assumption)) HC0.out; have HR325 := aM (Kd.C_of_reads (h1 := fun _ => rfl) (hA72 _ (Kd.reads_of_C HR0.out))); have HC325 := aM hC72; clear hA72 hC72 hi072 hsz72; obtain ⟨tk72, hTK72⟩ : ∃ t_, t_ = (l0.drop (a1 : Int).toNat) := ⟨_, rfl⟩; rw [← hTK72] at hcut72; rw [← hTK72] at HR325; rw [← hTK72] at HC325; rw [← hTK72] at A64; clear hTK72) | (go_at_call 116; (with_reducible refine (bytes_HasPrefix.calls _ _ tk72 _ _ t322 true _ ?side1 ?side2 ?side3 ?side4 A64.out).mono ?_); (case side1 => repeat (first | exact (cB HR325.out HB.out) | (with_reducible refine Kd.C_alloc ?_ _) | (with_reducible refine Kd.C_drewN ?_ _) | (with_reducible refine Kd.C_drew ?_))); (case side2 => exact HC325.out); (case side3 => repeat (first | exact (Kd.R_reads' HO324.out).2.2 | (with_reducible refine Kd.C_alloc ?_ _) | (with_reducible refine Kd.C_drewN ?_ _) | (with_reducible refine Kd.C_drew ?_))); (case side4 => exact (Kd.R_reads' HO324.out).2.1); rintro e w' ⟨rfl, ⟨nd, rfl⟩⟩; (try (rw [drewN_self w69]; generalize hq_ : World.drewN w69 _ = w69; have n0_ : Aside0 (Kd.R (Kd.int .u8) 5 w69 w.heap.size (fun _ => True) (.slice Ao71 t322.length co71) t322) := ⟨by rw [← hq_]; exact (kr HO324.out)⟩; have n1_ : Aside0 (w69.heap[gb295]? = some (.cells #[.int .i64 0, .int .i64 0, .int .i64 0, .int .i64 0, .int .i64 0, .int .i64 0, .int .i64 0, .bool false] 82 (0, 0))) := ⟨by rw [← hq_]; exact (bk BK295.out)⟩; have n2_ : Aside0 (w69.heap[gb300]? = some (.cells #[.int .i64 t297, .int .i64 t301, .int .i64 x301002_9, .int .i64 x301003_9, .int .i64 x301004_9, .int .i64 x301005_9, .int .i64 x301006_9, .bool x301007_9] 82 (0, 0))) := ⟨by rw [← hq_]; exact (bk BK300.out)⟩; have n3_ : Aside0 (IsS142 w w69 gb296 l0 t302 false) := ⟨by rw [← hq_]; exact (by repeat (first | (with_reducible first | exact HI296.out | apply IsS142.alloc | apply IsS142.drewN | apply IsS142.drew | apply IsS142.set_1 | apply IsS142.set_2 | apply IsS142.put_0 (hx_ := ⟨HR0.out, HC0.out⟩) | refine IsS142.far ?_ NB296_295.out _ | refine IsS142.far ?_ NB296_300.out _) | exact HI296.out))⟩; have n4_ : Aside0 (Below w.heap.size w w69) := ⟨by rw [← hq_]; exact (by repeat (first | (with_reducible first | exact HB.out | apply below_alloc | apply pw_below_drewN | apply below_drew1 | refine below_set ?_ (IsS142.ge HI296.out) | refine below_set ?_ GE295.out | refine below_set ?_ GE300.out) | exact HB.out))⟩; clear HO324 BK295 BK300 HI296 HB hq_; have HO324 := n0_; have BK295 := n1_; have BK300 := n2_; have HI296 := n3_; have HB := n4_; clear n0_ n1_ n2_ n3_ n4_)); have hcz73_0 := cI BK300.out 0; have hcz73_1 := cI BK300.out 1; have hcz73_2 := cI BK300.out 2; have hcz73_3 := cI BK300.out 3; have hcz73_4 := cI BK300.out 4; have hcz73_5 := cI BK300.out 5; have hcz73_6 := cI BK300.out 6; have hcz73_7 := cI BK300.out 7; have hfz73_0 := bF BK300.out 0; have hfz73_1 := bF BK300.out 1; have hfz73_2 := bF BK300.out 2; have hfz73_3 := bF BK300.out 3; have hfz73_4 := bF BK300.out 4; have hfz73_5 := bF BK300.out 5; have hfz73_6 := bF BK300.out 6; have hfz73_7 := bF BK300.out 7; have hnb74 := NB295_296.out; have hnc74 := NB296_295.out; have hcz75_0 := cI BK295.out 0; have hcz75_1 := cI BK295.out 1; have hcz75_2 := cI BK295.out 2; have hcz75_3 := cI BK295.out 3; have hcz75_4 := cI BK295.out 4; have hcz75_5 := cI BK295.out 5; have hcz75_6 := cI BK295.out 6; have hcz75_7 := cI BK295.out 7; have hfz75_0 := bF BK295.out 0; have hfz75_1 := bF BK295.out 1; have hfz75_2 := bF BK295.out 2; have hfz75_3 := bF BK295.out 3; have hfz75_4 := bF BK295.out 4; have hfz75_5 := bF BK295.out 5; have hfz75_6 := bF BK295.out 6; have hfz75_7 := bF BK295.out 7))
      refine bodyPost_ret (results_ctt rfl _ _ gb295 82 #[.int .i64 t297, .int .i64 t301, .int .i64 x301002_9, .int .i64 x301003_9, .int .i64 x301004_9, .int .i64 x301005_9, .int .i64 x301006_9, .bool x301007_9] (0, 0) _ rfl (by (with_reducible repeat (first | refine blk_drewN ?_ _ | refine blk_drew ?_ | refine blk_alloc ?_ _)); refine blk_put (cs := #[.int .i64 t297, .int .i64 t301, .int .i64 x301002_9, .int .i64 x301003_9, .int .i64 x301004_9, .int .i64 x301005_9, .int .i64 x301006_9, .bool false]) ?_ 7 _ rfl; (with_reducible repeat (first | refine blk_drewN ?_ _ | refine blk_drew ?_ | refine blk_alloc ?_ _)); refine blk_put (cs := #[.int .i64 t297, .int .i64 t301, .int .i64 x301002_9, .int .i64 x301003_9, .int .i64 x301004_9, .int .i64 x301005_9, .int .i64 0, .bool false]) ?_ 6 _ rfl; (with_reducible repeat (first | refine blk_drewN ?_ _ | refine blk_drew ?_ | refine blk_alloc ?_ _)); refine blk_put (cs := #[.int .i64 t297, .int .i64 t301, .int .i64 x301002_9, .int .i64 x301003_9, .int .i64 x301004_9, .int .i64 0, .int .i64 0, .bool false]) ?_ 5 _ rfl; (with_reducible repeat (first | refine blk_drewN ?_ _ | refine blk_drew ?_ | refine blk_alloc ?_ _)); refine blk_put (cs := #[.int .i64 t297, .int .i64 t301, .int .i64 x301002_9, .int .i64 x301003_9, .int .i64 0, .int .i64 0, .int .i64 0, .bool false]) ?_ 4 _ rfl; (with_reducible repeat (first | refine blk_drewN ?_ _ | refine blk_drew ?_ | refine blk_alloc ?_ _)); refine blk_put (cs := #[.int .i64 t297, .int .i64 t301, .int .i64 x301002_9, .int .i64 0, .int .i64 0, .int .i64 0, .int .i64 0, .bool false]) ?_ 3 _ rfl; (with_reducible repeat (first | refine blk_drewN ?_ _ | refine blk_drew ?_ | refine blk_alloc ?_ _)); refine blk_put (cs := #[.int .i64 t297, .int .i64 t301, .int .i64 0, .int .i64 0, .int .i64 0, .int .i64 0, .int .i64 0, .bool false]) ?_ 2 _ rfl; (with_reducible repeat (first | refine blk_drewN ?_ _ | refine blk_drew ?_ | refine blk_alloc ?_ _)); refine blk_put (cs := #[.int .i64 t297, .int .i64 0, .int .i64 0, .int .i64 0, .int .i64 0, .int .i64 0, .int .i64 0, .bool false]) ?_ 1 _ rfl; (with_reducible repeat (first | refine blk_drewN ?_ _ | refine blk_drew ?_ | refine blk_alloc ?_ _)); refine blk_put (cs := #[.int .i64 0, .int .i64 0, .int .i64 0, .int .i64 0, .int .i64 0, .int .i64 0, .int .i64 0, .bool false]) ?_ 0 _ rfl; (with_reducible repeat (first | refine blk_drewN ?_ _ | refine blk_drew ?_ | refine blk_alloc ?_ _)); exact BK295.out) Try.underlying82 rfl (by kernel_rfl)) rfl ?_
      exact ⟨xW, by repeat (first | (with_reducible first | exact HB.out | apply below_alloc | apply pw_below_drewN | apply below_drew1 | refine below_set ?_ (IsS142.ge HI296.out) | refine below_set ?_ GE295.out | refine below_set ?_ GE300.out) | exact HB.out)⟩
     replace c65 := Bool.eq_false_iff.mpr c65
     subst c65
     have H1 : (some (0, 0, 0, 0, 0, 0, 0, false, 0, false)) = some (r1, r2, r3, r4, r5, r6, r7, r8, r9, r10) := by rw [if_neg (show ¬ (false = true) by decide)] at H; exact H
     clear H
     have H := H1
     clear H1
     simp only [Option.some.injEq, Prod.mk.injEq] at H
     obtain ⟨rfl, rfl, rfl, rfl, rfl, rfl, rfl, rfl, rfl, rfl⟩ := H
     have hnb76 := NB300_295.out
     have hnc76 := NB295_300.out
     have hnb77 := NB300_296.out
     have hnc77 := NB296_300.out
     have hcz78_0 := cI BK300.out 0
     have hcz78_1 := cI BK300.out 1
     have hcz78_2 := cI BK300.out 2
     have hcz78_3 := cI BK300.out 3
     have hcz78_4 := cI BK300.out 4
     have hcz78_5 := cI BK300.out 5
     have hcz78_6 := cI BK300.out 6
     have hcz78_7 := cI BK300.out 7
     have hfz78_0 := bF BK300.out 0
     have hfz78_1 := bF BK300.out 1
     have hfz78_2 := bF BK300.out 2
     have hfz78_3 := bF BK300.out 3
     have hfz78_4 := bF BK300.out 4
     have hfz78_5 := bF BK300.out 5
     have hfz78_6 := bF BK300.out 6
     have hfz78_7 := bF BK300.out 7
     go_wp2_with (first | ((with_reducible refine gate_callee (f := 98) rfl ?_); refine goesL_ (some 50) rfl rfl Try.func98 (by kernel_rfl) rfl #[.agg #[.int .i64 t297, .int .i64 t301, .int .i64 x301002_9, .int .i64 x301003_9, .int .i64 x301004_9, .int .i64 x301005_9, .int .i64 x301006_9, .bool x301007_9]] rfl xR ?_; (with_reducible refine (impl_InBytes.calls kj9 t297 t301 x301002_9 x301003_9 x301004_9 x301005_9 x301006_9 x301007_9 t322 _ A44.out).mono ?_); rintro e w79 ⟨v323, rfl, ho0, hb⟩; refine ⟨_, rfl, ?_⟩; have n0_ := aM (Kd.R_lower ho0 (below_size (by repeat (first | (with_reducible first | exact HB.out | apply below_alloc | apply pw_below_drewN | apply below_drew1 | refine below_set ?_ (IsS142.ge HI296.out) | refine below_set ?_ GE295.out | refine below_set ?_ GE300.out) | exact HB.out)))); have n1_ := aM (bB (g := gb295) (o := .cells #[.int .i64 0, .int .i64 0, .int .i64 0, .int .i64 0, .int .i64 0, .int .i64 0, .int .i64 0, .bool false] 82 (0, 0)) (bk BK295.out) hb); have n2_ := aM (bB (g := gb300) (o := .cells #[.int .i64 t297, .int .i64 t301, .int .i64 x301002_9, .int .i64 x301003_9, .int .i64 x301004_9, .int .i64 x301005_9, .int .i64 x301006_9, .bool x301007_9] 82 (0, 0)) (bk BK300.out) hb); have n3_ := aM (IsS142.below (by repeat (first | (with_reducible first | exact HI296.out | apply IsS142.alloc | apply IsS142.drewN | apply IsS142.drew | apply IsS142.set_1 | apply IsS142.set_2 | apply IsS142.put_0 (hx_ := ⟨HR0.out, HC0.out⟩) | refine IsS142.far ?_ NB296_295.out _ | refine IsS142.far ?_ NB296_300.out _) | exact HI296.out)) hb); have n4_ := aM (bS (by repeat (first | (with_reducible first | exact HB.out | apply below_alloc | apply pw_below_drewN | apply below_drew1 | refine below_set ?_ (IsS142.ge HI296.out) | refine below_set ?_ GE295.out | refine below_set ?_ GE300.out) | exact HB.out)) hb); clear BK295 BK300; clear HI296 HB; have HO324 := n0_; have BK295 := n1_; have BK300 := n2_; have HI296 := n3_; have HB := n4_; clear n0_ n1_ n2_ n3_ n4_; (try clear hb); (try clear ho0); obtain ⟨ASz80_0, cSz80_0, HGz80, hgz80, HSz80_0⟩ := HI296.out; have hcz80_0 := cellS142_0 HGz80; have hcz80_1 := cellS142_1 HGz80; have hcz80_2 := cellS142_2 HGz80; have hfz80_0 := bF HGz80 0; have hfz80_1 := bF HGz80 1; have hfz80_2 := bF HGz80 2; clear HGz80 hgz80; obtain ⟨Ao81, co81, eo81⟩ := Kd.R_slice HO324.out; subst eo81; obtain ⟨i082, hi082, _, hsz82, _⟩ := info_parts info5; obtain ⟨A82, hcut82, hA82, hC82⟩ := print_drop_of (P := Try.prog) (Value.int .u8) 0 22 5 .i64 Try.underlying22 hi082 hsz82 A0 c0 l0 a1 (of_decide_eq_true (by first | (with_reducible assumption) | assumption)) (of_decide_eq_true (by first | (with_reducible assumption) | assumption)) HC0.out; have HR325 := aM (Kd.C_of_reads (h1 := fun _ => rfl) (hA82 _ (Kd.reads_of_C HR0.out))); have HC325 := aM hC82; clear hA82 hC82 hi082 hsz82; obtain ⟨tk82, hTK82⟩ : ∃ t_, t_ = (l0.drop (a1 : Int).toNat) := ⟨_, rfl⟩; rw [← hTK82] at hcut82; rw [← hTK82] at HR325; rw [← hTK82] at HC325; rw [← hTK82] at A64; clear hTK82) | (go_at_call 116; (with_reducible refine (bytes_HasPrefix.calls _ _ tk82 _ _ t322 false _ ?side1 ?side2 ?side3 ?side4 A64.out).mono ?_); (case side1 => repeat (first | exact (cB HR325.out HB.out) | (with_reducible refine Kd.C_alloc ?_ _) | (with_reducible refine Kd.C_drewN ?_ _) | (with_reducible refine Kd.C_drew ?_))); (case side2 => exact HC325.out); (case side3 => repeat (first | exact (Kd.R_reads' HO324.out).2.2 | (with_reducible refine Kd.C_alloc ?_ _) | (with_reducible refine Kd.C_drewN ?_ _) | (with_reducible refine Kd.C_drew ?_))); (case side4 => exact (Kd.R_reads' HO324.out).2.1); rintro e w' ⟨rfl, ⟨nd, rfl⟩⟩; (try (rw [drewN_self w79]; generalize hq_ : World.drewN w79 _ = w79; have n0_ : Aside0 (Kd.R (Kd.int .u8) 5 w79 w.heap.size (fun _ => True) (.slice Ao81 t322.length co81) t322) := ⟨by rw [← hq_]; exact (kr HO324.out)⟩; have n1_ : Aside0 (w79.heap[gb295]? = some (.cells #[.int .i64 0, .int .i64 0, .int .i64 0, .int .i64 0, .int .i64 0, .int .i64 0, .int .i64 0, .bool false] 82 (0, 0))) := ⟨by rw [← hq_]; exact (bk BK295.out)⟩; have n2_ : Aside0 (w79.heap[gb300]? = some (.cells #[.int .i64 t297, .int .i64 t301, .int .i64 x301002_9, .int .i64 x301003_9, .int .i64 x301004_9, .int .i64 x301005_9, .int .i64 x301006_9, .bool x301007_9] 82 (0, 0))) := ⟨by rw [← hq_]; exact (bk BK300.out)⟩; have n3_ : Aside0 (IsS142 w w79 gb296 l0 t302 false) := ⟨by rw [← hq_]; exact (by repeat (first | (with_reducible first | exact HI296.out | apply IsS142.alloc | apply IsS142.drewN | apply IsS142.drew | apply IsS142.set_1 | apply IsS142.set_2 | apply IsS142.put_0 (hx_ := ⟨HR0.out, HC0.out⟩) | refine IsS142.far ?_ NB296_295.out _ | refine IsS142.far ?_ NB296_300.out _) | exact HI296.out))⟩; have n4_ : Aside0 (Below w.heap.size w w79) := ⟨by rw [← hq_]; exact (by repeat (first | (with_reducible first | exact HB.out | apply below_alloc | apply pw_below_drewN | apply below_drew1 | refine below_set ?_ (IsS142.ge HI296.out) | refine below_set ?_ GE295.out | refine below_set ?_ GE300.out) | exact HB.out))⟩; clear HO324 BK295 BK300 HI296 HB hq_; have HO324 := n0_; have BK295 := n1_; have BK300 := n2_; have HI296 := n3_; have HB := n4_; clear n0_ n1_ n2_ n3_ n4_)); have hnb83 := NB295_296.out; have hnc83 := NB296_295.out; have hcz84_0 := cI BK295.out 0; have hcz84_1 := cI BK295.out 1; have hcz84_2 := cI BK295.out 2; have hcz84_3 := cI BK295.out 3; have hcz84_4 := cI BK295.out 4; have hcz84_5 := cI BK295.out 5; have hcz84_6 := cI BK295.out 6; have hcz84_7 := cI BK295.out 7; have hfz84_0 := bF BK295.out 0; have hfz84_1 := bF BK295.out 1; have hfz84_2 := bF BK295.out 2; have hfz84_3 := bF BK295.out 3; have hfz84_4 := bF BK295.out 4; have hfz84_5 := bF BK295.out 5; have hfz84_6 := bF BK295.out 6; have hfz84_7 := bF BK295.out 7))
     refine bodyPost_ret (results_ctt rfl _ _ gb295 82 #[.int .i64 0, .int .i64 0, .int .i64 0, .int .i64 0, .int .i64 0, .int .i64 0, .int .i64 0, .bool false] (0, 0) _ rfl (by (with_reducible repeat (first | refine blk_drewN ?_ _ | refine blk_drew ?_ | refine blk_alloc ?_ _)); refine blk_put (cs := #[.int .i64 0, .int .i64 0, .int .i64 0, .int .i64 0, .int .i64 0, .int .i64 0, .int .i64 0, .bool false]) ?_ 7 _ rfl; (with_reducible repeat (first | refine blk_drewN ?_ _ | refine blk_drew ?_ | refine blk_alloc ?_ _)); refine blk_put (cs := #[.int .i64 0, .int .i64 0, .int .i64 0, .int .i64 0, .int .i64 0, .int .i64 0, .int .i64 0, .bool false]) ?_ 6 _ rfl; (with_reducible repeat (first | refine blk_drewN ?_ _ | refine blk_drew ?_ | refine blk_alloc ?_ _)); refine blk_put (cs := #[.int .i64 0, .int .i64 0, .int .i64 0, .int .i64 0, .int .i64 0, .int .i64 0, .int .i64 0, .bool false]) ?_ 5 _ rfl; (with_reducible repeat (first | refine blk_drewN ?_ _ | refine blk_drew ?_ | refine blk_alloc ?_ _)); refine blk_put (cs := #[.int .i64 0, .int .i64 0, .int .i64 0, .int .i64 0, .int .i64 0, .int .i64 0, .int .i64 0, .bool false]) ?_ 4 _ rfl; (with_reducible repeat (first | refine blk_drewN ?_ _ | refine blk_drew ?_ | refine blk_alloc ?_ _)); refine blk_put (cs := #[.int .i64 0, .int .i64 0, .int .i64 0, .int .i64 0, .int .i64 0, .int .i64 0, .int .i64 0, .bool false]) ?_ 3 _ rfl; (with_reducible repeat (first | refine blk_drewN ?_ _ | refine blk_drew ?_ | refine blk_alloc ?_ _)); refine blk_put (cs := #[.int .i64 0, .int .i64 0, .int .i64 0, .int .i64 0, .int .i64 0, .int .i64 0, .int .i64 0, .bool false]) ?_ 2 _ rfl; (with_reducible repeat (first | refine blk_drewN ?_ _ | refine blk_drew ?_ | refine blk_alloc ?_ _)); refine blk_put (cs := #[.int .i64 0, .int .i64 0, .int .i64 0, .int .i64 0, .int .i64 0, .int .i64 0, .int .i64 0, .bool false]) ?_ 1 _ rfl; (with_reducible repeat (first | refine blk_drewN ?_ _ | refine blk_drew ?_ | refine blk_alloc ?_ _)); refine blk_put (cs := #[.int .i64 0, .int .i64 0, .int .i64 0, .int .i64 0, .int .i64 0, .int .i64 0, .int .i64 0, .bool false]) ?_ 0 _ rfl; (with_reducible repeat (first | refine blk_drewN ?_ _ | refine blk_drew ?_ | refine blk_alloc ?_ _)); exact BK295.out) Try.underlying82 rfl (by kernel_rfl)) rfl ?_
     exact ⟨xW, by repeat (first | (with_reducible first | exact HB.out | apply below_alloc | apply pw_below_drewN | apply below_drew1 | refine below_set ?_ (IsS142.ge HI296.out) | refine below_set ?_ GE295.out | refine below_set ?_ GE300.out) | exact HB.out)⟩

def laws_eqVec.f (a0_0 : Int) (a0_1 : Int) (a0_2 : Int) (a0_3 : Int) (a1_0 : Int) (a1_1 : Int) (a1_2 : Int) (a1_3 : Int) : Option (Bool) := if a0_0 = a1_0 then (if a0_1 = a1_1 then (if a0_2 = a1_2 then (if a0_3 = a1_3 then (some true) else (some false)) else (some false)) else (some false)) else (some false)
set_option maxHeartbeats 60000000 in
set_option maxRecDepth 100000 in
theorem laws_eqVec.calls (a0_0 : Int) (a0_1 : Int) (a0_2 : Int) (a0_3 : Int) (a1_0 : Int) (a1_1 : Int) (a1_2 : Int) (a1_3 : Int) (r : Bool) (w : World) (h : laws_eqVec.f a0_0 a0_1 a0_2 a0_3 a1_0 a1_1 a1_2 a1_3 = some r) :
  Calls Try.prog 117 #[.agg #[.int .i64 a0_0, .int .i64 a0_1, .int .i64 a0_2, .int .i64 a0_3], .agg #[.int .i64 a1_0, .int .i64 a1_1, .int .i64 a1_2, .int .i64 a1_3]] w fun e w' => e = .returned (.bool r) ∧ Below w.heap.size w w' := by
 have hu42 := Try.underlying42
 have HB := aM (Below.refl w.heap.size w)
 have H : (if a0_0 = a1_0 then (if a0_1 = a1_1 then (if a0_2 = a1_2 then (if a0_3 = a1_3 then (some true) else (some false)) else (some false)) else (some false)) else (some false)) = some r := h
 clear h
 by_cases c3 : a0_0 = a1_0
 case neg =>
  rw [if_neg c3] at H
  have c3b0 : (a0_0 == a1_0) = false := beq_eq_false_iff_ne.mpr c3
  have c3b1 : (a0_0 != a1_0) = true := bne_iff_ne.mpr c3
  obtain rfl := Option.some.inj H
  go_enter Try.func117, Try.ntmps117
  go_wp2_with (first | ((with_reducible refine gate_dst (N := 2) rfl ?_); refine box_event ?hg (N := 2) ?hd (cs := #[.int .i64 a0_0, .int .i64 a0_1, .int .i64 a0_2, .int .i64 a0_3]) (t := 42) ?hr ?_; (case hd => rfl); (case hg => rfl); (case hr => first | (go_simp; done) | (go_simp; rfl)); intro gb327 hg w27 hbox hb; have n0_ := aM (bS (bl HB.out) hb); have n1_ := aM (hbox); have n2_ := aM ((by rw [hg]; exact (below_size (bl HB.out)) : w.heap.size ≤ gb327)); have n3_ := aM ((by rw [hg]; exact (below_size (bl HB.out)) : w.heap.size ≤ gb327)); clear HB; have HB := n0_; have BK327 := n1_; have GW327 := n2_; have GE327 := n3_; clear n0_ n1_ n2_ n3_; clear hb hbox hg) | ((with_reducible refine gate_dst (N := 3) rfl ?_); refine box_event ?hg (N := 3) ?hd (cs := #[.int .i64 a1_0, .int .i64 a1_1, .int .i64 a1_2, .int .i64 a1_3]) (t := 42) ?hr ?_; (case hd => rfl); (case hg => rfl); (case hr => first | (go_simp; done) | (go_simp; rfl)); intro gb328 hg w28 hbox hb; have n0_ := aM (bB (g := gb327) (o := .cells #[.int .i64 a0_0, .int .i64 a0_1, .int .i64 a0_2, .int .i64 a0_3] 42 (0, 0)) (bk BK327.out) hb); have n1_ := aM (bS (bl HB.out) hb); have n2_ := aM (hbox); have n3_ := aM ((by rw [hg]; exact (below_size (bl HB.out)) : w.heap.size ≤ gb328)); have n4_ := aM ((by rw [hg]; exact (below_size (bl HB.out)) : w.heap.size ≤ gb328)); have n5_ := aM ((by rw [hg]; exact Nat.ne_of_lt (blk_lt (g := gb327) (o := .cells #[.int .i64 a0_0, .int .i64 a0_1, .int .i64 a0_2, .int .i64 a0_3] 42 (0, 0)) (bk BK327.out)) : gb327 ≠ gb328)); have n6_ := aM ((by rw [hg]; exact Nat.ne_of_gt (blk_lt (g := gb327) (o := .cells #[.int .i64 a0_0, .int .i64 a0_1, .int .i64 a0_2, .int .i64 a0_3] 42 (0, 0)) (bk BK327.out)) : gb328 ≠ gb327)); clear BK327 HB; have BK327 := n0_; have HB := n1_; have BK328 := n2_; have GW328 := n3_; have GE328 := n4_; have NB327_328 := n5_; have NB328_327 := n6_; clear n0_ n1_ n2_ n3_ n4_ n5_ n6_; clear hb hbox hg; have hnb29 := NB327_328.out; have hnc29 := NB328_327.out; have hcz30_0 := cI BK327.out 0; have hcz30_1 := cI BK327.out 1; have hcz30_2 := cI BK327.out 2; have hcz30_3 := cI BK327.out 3; have hfz30_0 := bF BK327.out 0; have hfz30_1 := bF BK327.out 1; have hfz30_2 := bF BK327.out 2; have hfz30_3 := bF BK327.out 3; have hcz31_0 := cI BK328.out 0; have hcz31_1 := cI BK328.out 1; have hcz31_2 := cI BK328.out 2; have hcz31_3 := cI BK328.out 3; have hfz31_0 := bF BK328.out 0; have hfz31_1 := bF BK328.out 1; have hfz31_2 := bF BK328.out 2; have hfz31_3 := bF BK328.out 3))
  go_ret
  exact ⟨xW, bl HB.out⟩
 rw [if_pos c3] at H
 have c3b0 : (a0_0 == a1_0) = true := beq_iff_eq.mpr c3
 have c3b1 : (a0_0 != a1_0) = false := bne_eq_false_iff_eq.mpr c3
 clear c3
 by_cases c4 : a0_1 = a1_1
 case neg =>
  rw [if_neg c4] at H
  have c4b0 : (a0_1 == a1_1) = false := beq_eq_false_iff_ne.mpr c4
  have c4b1 : (a0_1 != a1_1) = true := bne_iff_ne.mpr c4
  obtain rfl := Option.some.inj H
  go_enter Try.func117, Try.ntmps117
  go_wp2_with (first | ((with_reducible refine gate_dst (N := 2) rfl ?_); refine box_event ?hg (N := 2) ?hd (cs := #[.int .i64 a0_0, .int .i64 a0_1, .int .i64 a0_2, .int .i64 a0_3]) (t := 42) ?hr ?_; (case hd => rfl); (case hg => rfl); (case hr => first | (go_simp; done) | (go_simp; rfl)); intro gb327 hg w22 hbox hb; have n0_ := aM (bS (bl HB.out) hb); have n1_ := aM (hbox); have n2_ := aM ((by rw [hg]; exact (below_size (bl HB.out)) : w.heap.size ≤ gb327)); have n3_ := aM ((by rw [hg]; exact (below_size (bl HB.out)) : w.heap.size ≤ gb327)); clear HB; have HB := n0_; have BK327 := n1_; have GW327 := n2_; have GE327 := n3_; clear n0_ n1_ n2_ n3_; clear hb hbox hg) | ((with_reducible refine gate_dst (N := 3) rfl ?_); refine box_event ?hg (N := 3) ?hd (cs := #[.int .i64 a1_0, .int .i64 a1_1, .int .i64 a1_2, .int .i64 a1_3]) (t := 42) ?hr ?_; (case hd => rfl); (case hg => rfl); (case hr => first | (go_simp; done) | (go_simp; rfl)); intro gb328 hg w23 hbox hb; have n0_ := aM (bB (g := gb327) (o := .cells #[.int .i64 a0_0, .int .i64 a0_1, .int .i64 a0_2, .int .i64 a0_3] 42 (0, 0)) (bk BK327.out) hb); have n1_ := aM (bS (bl HB.out) hb); have n2_ := aM (hbox); have n3_ := aM ((by rw [hg]; exact (below_size (bl HB.out)) : w.heap.size ≤ gb328)); have n4_ := aM ((by rw [hg]; exact (below_size (bl HB.out)) : w.heap.size ≤ gb328)); have n5_ := aM ((by rw [hg]; exact Nat.ne_of_lt (blk_lt (g := gb327) (o := .cells #[.int .i64 a0_0, .int .i64 a0_1, .int .i64 a0_2, .int .i64 a0_3] 42 (0, 0)) (bk BK327.out)) : gb327 ≠ gb328)); have n6_ := aM ((by rw [hg]; exact Nat.ne_of_gt (blk_lt (g := gb327) (o := .cells #[.int .i64 a0_0, .int .i64 a0_1, .int .i64 a0_2, .int .i64 a0_3] 42 (0, 0)) (bk BK327.out)) : gb328 ≠ gb327)); clear BK327 HB; have BK327 := n0_; have HB := n1_; have BK328 := n2_; have GW328 := n3_; have GE328 := n4_; have NB327_328 := n5_; have NB328_327 := n6_; clear n0_ n1_ n2_ n3_ n4_ n5_ n6_; clear hb hbox hg; have hnb24 := NB327_328.out; have hnc24 := NB328_327.out; have hcz25_0 := cI BK327.out 0; have hcz25_1 := cI BK327.out 1; have hcz25_2 := cI BK327.out 2; have hcz25_3 := cI BK327.out 3; have hfz25_0 := bF BK327.out 0; have hfz25_1 := bF BK327.out 1; have hfz25_2 := bF BK327.out 2; have hfz25_3 := bF BK327.out 3; have hcz26_0 := cI BK328.out 0; have hcz26_1 := cI BK328.out 1; have hcz26_2 := cI BK328.out 2; have hcz26_3 := cI BK328.out 3; have hfz26_0 := bF BK328.out 0; have hfz26_1 := bF BK328.out 1; have hfz26_2 := bF BK328.out 2; have hfz26_3 := bF BK328.out 3))
  go_ret
  exact ⟨xW, bl HB.out⟩
 rw [if_pos c4] at H
 have c4b0 : (a0_1 == a1_1) = true := beq_iff_eq.mpr c4
 have c4b1 : (a0_1 != a1_1) = false := bne_eq_false_iff_eq.mpr c4
 clear c4
 by_cases c5 : a0_2 = a1_2
 case neg =>
  rw [if_neg c5] at H
  have c5b0 : (a0_2 == a1_2) = false := beq_eq_false_iff_ne.mpr c5
  have c5b1 : (a0_2 != a1_2) = true := bne_iff_ne.mpr c5
  obtain rfl := Option.some.inj H
  go_enter Try.func117, Try.ntmps117
  go_wp2_with (first | ((with_reducible refine gate_dst (N := 2) rfl ?_); refine box_event ?hg (N := 2) ?hd (cs := #[.int .i64 a0_0, .int .i64 a0_1, .int .i64 a0_2, .int .i64 a0_3]) (t := 42) ?hr ?_; (case hd => rfl); (case hg => rfl); (case hr => first | (go_simp; done) | (go_simp; rfl)); intro gb327 hg w17 hbox hb; have n0_ := aM (bS (bl HB.out) hb); have n1_ := aM (hbox); have n2_ := aM ((by rw [hg]; exact (below_size (bl HB.out)) : w.heap.size ≤ gb327)); have n3_ := aM ((by rw [hg]; exact (below_size (bl HB.out)) : w.heap.size ≤ gb327)); clear HB; have HB := n0_; have BK327 := n1_; have GW327 := n2_; have GE327 := n3_; clear n0_ n1_ n2_ n3_; clear hb hbox hg) | ((with_reducible refine gate_dst (N := 3) rfl ?_); refine box_event ?hg (N := 3) ?hd (cs := #[.int .i64 a1_0, .int .i64 a1_1, .int .i64 a1_2, .int .i64 a1_3]) (t := 42) ?hr ?_; (case hd => rfl); (case hg => rfl); (case hr => first | (go_simp; done) | (go_simp; rfl)); intro gb328 hg w18 hbox hb; have n0_ := aM (bB (g := gb327) (o := .cells #[.int .i64 a0_0, .int .i64 a0_1, .int .i64 a0_2, .int .i64 a0_3] 42 (0, 0)) (bk BK327.out) hb); have n1_ := aM (bS (bl HB.out) hb); have n2_ := aM (hbox); have n3_ := aM ((by rw [hg]; exact (below_size (bl HB.out)) : w.heap.size ≤ gb328)); have n4_ := aM ((by rw [hg]; exact (below_size (bl HB.out)) : w.heap.size ≤ gb328)); have n5_ := aM ((by rw [hg]; exact Nat.ne_of_lt (blk_lt (g := gb327) (o := .cells #[.int .i64 a0_0, .int .i64 a0_1, .int .i64 a0_2, .int .i64 a0_3] 42 (0, 0)) (bk BK327.out)) : gb327 ≠ gb328)); have n6_ := aM ((by rw [hg]; exact Nat.ne_of_gt (blk_lt (g := gb327) (o := .cells #[.int .i64 a0_0, .int .i64 a0_1, .int .i64 a0_2, .int .i64 a0_3] 42 (0, 0)) (bk BK327.out)) : gb328 ≠ gb327)); clear BK327 HB; have BK327 := n0_; have HB := n1_; have BK328 := n2_; have GW328 := n3_; have GE328 := n4_; have NB327_328 := n5_; have NB328_327 := n6_; clear n0_ n1_ n2_ n3_ n4_ n5_ n6_; clear hb hbox hg; have hnb19 := NB327_328.out; have hnc19 := NB328_327.out; have hcz20_0 := cI BK327.out 0; have hcz20_1 := cI BK327.out 1; have hcz20_2 := cI BK327.out 2; have hcz20_3 := cI BK327.out 3; have hfz20_0 := bF BK327.out 0; have hfz20_1 := bF BK327.out 1; have hfz20_2 := bF BK327.out 2; have hfz20_3 := bF BK327.out 3; have hcz21_0 := cI BK328.out 0; have hcz21_1 := cI BK328.out 1; have hcz21_2 := cI BK328.out 2; have hcz21_3 := cI BK328.out 3; have hfz21_0 := bF BK328.out 0; have hfz21_1 := bF BK328.out 1; have hfz21_2 := bF BK328.out 2; have hfz21_3 := bF BK328.out 3))
  go_ret
  exact ⟨xW, bl HB.out⟩
 rw [if_pos c5] at H
 have c5b0 : (a0_2 == a1_2) = true := beq_iff_eq.mpr c5
 have c5b1 : (a0_2 != a1_2) = false := bne_eq_false_iff_eq.mpr c5
 clear c5
 by_cases c6 : a0_3 = a1_3
 case neg =>
  rw [if_neg c6] at H
  have c6b0 : (a0_3 == a1_3) = false := beq_eq_false_iff_ne.mpr c6
  have c6b1 : (a0_3 != a1_3) = true := bne_iff_ne.mpr c6
  obtain rfl := Option.some.inj H
  go_enter Try.func117, Try.ntmps117
  go_wp2_with (first | ((with_reducible refine gate_dst (N := 2) rfl ?_); refine box_event ?hg (N := 2) ?hd (cs := #[.int .i64 a0_0, .int .i64 a0_1, .int .i64 a0_2, .int .i64 a0_3]) (t := 42) ?hr ?_; (case hd => rfl); (case hg => rfl); (case hr => first | (go_simp; done) | (go_simp; rfl)); intro gb327 hg w12 hbox hb; have n0_ := aM (bS (bl HB.out) hb); have n1_ := aM (hbox); have n2_ := aM ((by rw [hg]; exact (below_size (bl HB.out)) : w.heap.size ≤ gb327)); have n3_ := aM ((by rw [hg]; exact (below_size (bl HB.out)) : w.heap.size ≤ gb327)); clear HB; have HB := n0_; have BK327 := n1_; have GW327 := n2_; have GE327 := n3_; clear n0_ n1_ n2_ n3_; clear hb hbox hg) | ((with_reducible refine gate_dst (N := 3) rfl ?_); refine box_event ?hg (N := 3) ?hd (cs := #[.int .i64 a1_0, .int .i64 a1_1, .int .i64 a1_2, .int .i64 a1_3]) (t := 42) ?hr ?_; (case hd => rfl); (case hg => rfl); (case hr => first | (go_simp; done) | (go_simp; rfl)); intro gb328 hg w13 hbox hb; have n0_ := aM (bB (g := gb327) (o := .cells #[.int .i64 a0_0, .int .i64 a0_1, .int .i64 a0_2, .int .i64 a0_3] 42 (0, 0)) (bk BK327.out) hb); have n1_ := aM (bS (bl HB.out) hb); have n2_ := aM (hbox); have n3_ := aM ((by rw [hg]; exact (below_size (bl HB.out)) : w.heap.size ≤ gb328)); have n4_ := aM ((by rw [hg]; exact (below_size (bl HB.out)) : w.heap.size ≤ gb328)); have n5_ := aM ((by rw [hg]; exact Nat.ne_of_lt (blk_lt (g := gb327) (o := .cells #[.int .i64 a0_0, .int .i64 a0_1, .int .i64 a0_2, .int .i64 a0_3] 42 (0, 0)) (bk BK327.out)) : gb327 ≠ gb328)); have n6_ := aM ((by rw [hg]; exact Nat.ne_of_gt (blk_lt (g := gb327) (o := .cells #[.int .i64 a0_0, .int .i64 a0_1, .int .i64 a0_2, .int .i64 a0_3] 42 (0, 0)) (bk BK327.out)) : gb328 ≠ gb327)); clear BK327 HB; have BK327 := n0_; have HB := n1_; have BK328 := n2_; have GW328 := n3_; have GE328 := n4_; have NB327_328 := n5_; have NB328_327 := n6_; clear n0_ n1_ n2_ n3_ n4_ n5_ n6_; clear hb hbox hg; have hnb14 := NB327_328.out; have hnc14 := NB328_327.out; have hcz15_0 := cI BK327.out 0; have hcz15_1 := cI BK327.out 1; have hcz15_2 := cI BK327.out 2; have hcz15_3 := cI BK327.out 3; have hfz15_0 := bF BK327.out 0; have hfz15_1 := bF BK327.out 1; have hfz15_2 := bF BK327.out 2; have hfz15_3 := bF BK327.out 3; have hcz16_0 := cI BK328.out 0; have hcz16_1 := cI BK328.out 1; have hcz16_2 := cI BK328.out 2; have hcz16_3 := cI BK328.out 3; have hfz16_0 := bF BK328.out 0; have hfz16_1 := bF BK328.out 1; have hfz16_2 := bF BK328.out 2; have hfz16_3 := bF BK328.out 3))
  go_ret
  exact ⟨xW, bl HB.out⟩
 rw [if_pos c6] at H
 have c6b0 : (a0_3 == a1_3) = true := beq_iff_eq.mpr c6
 have c6b1 : (a0_3 != a1_3) = false := bne_eq_false_iff_eq.mpr c6
 clear c6
 obtain rfl := Option.some.inj H
 go_enter Try.func117, Try.ntmps117
 go_wp2_with (first | ((with_reducible refine gate_dst (N := 2) rfl ?_); refine box_event ?hg (N := 2) ?hd (cs := #[.int .i64 a0_0, .int .i64 a0_1, .int .i64 a0_2, .int .i64 a0_3]) (t := 42) ?hr ?_; (case hd => rfl); (case hg => rfl); (case hr => first | (go_simp; done) | (go_simp; rfl)); intro gb327 hg w7 hbox hb; have n0_ := aM (bS (bl HB.out) hb); have n1_ := aM (hbox); have n2_ := aM ((by rw [hg]; exact (below_size (bl HB.out)) : w.heap.size ≤ gb327)); have n3_ := aM ((by rw [hg]; exact (below_size (bl HB.out)) : w.heap.size ≤ gb327)); clear HB; have HB := n0_; have BK327 := n1_; have GW327 := n2_; have GE327 := n3_; clear n0_ n1_ n2_ n3_; clear hb hbox hg) | ((with_reducible refine gate_dst (N := 3) rfl ?_); refine box_event ?hg (N := 3) ?hd (cs := #[.int .i64 a1_0, .int .i64 a1_1, .int .i64 a1_2, .int .i64 a1_3]) (t := 42) ?hr ?_; (case hd => rfl); (case hg => rfl); (case hr => first | (go_simp; done) | (go_simp; rfl)); intro gb328 hg w8 hbox hb; have n0_ := aM (bB (g := gb327) (o := .cells #[.int .i64 a0_0, .int .i64 a0_1, .int .i64 a0_2, .int .i64 a0_3] 42 (0, 0)) (bk BK327.out) hb); have n1_ := aM (bS (bl HB.out) hb); have n2_ := aM (hbox); have n3_ := aM ((by rw [hg]; exact (below_size (bl HB.out)) : w.heap.size ≤ gb328)); have n4_ := aM ((by rw [hg]; exact (below_size (bl HB.out)) : w.heap.size ≤ gb328)); have n5_ := aM ((by rw [hg]; exact Nat.ne_of_lt (blk_lt (g := gb327) (o := .cells #[.int .i64 a0_0, .int .i64 a0_1, .int .i64 a0_2, .int .i64 a0_3] 42 (0, 0)) (bk BK327.out)) : gb327 ≠ gb328)); have n6_ := aM ((by rw [hg]; exact Nat.ne_of_gt (blk_lt (g := gb327) (o := .cells #[.int .i64 a0_0, .int .i64 a0_1, .int .i64 a0_2, .int .i64 a0_3] 42 (0, 0)) (bk BK327.out)) : gb328 ≠ gb327)); clear BK327 HB; have BK327 := n0_; have HB := n1_; have BK328 := n2_; have GW328 := n3_; have GE328 := n4_; have NB327_328 := n5_; have NB328_327 := n6_; clear n0_ n1_ n2_ n3_ n4_ n5_ n6_; clear hb hbox hg; have hnb9 := NB327_328.out; have hnc9 := NB328_327.out; have hcz10_0 := cI BK327.out 0; have hcz10_1 := cI BK327.out 1; have hcz10_2 := cI BK327.out 2; have hcz10_3 := cI BK327.out 3; have hfz10_0 := bF BK327.out 0; have hfz10_1 := bF BK327.out 1; have hfz10_2 := bF BK327.out 2; have hfz10_3 := bF BK327.out 3; have hcz11_0 := cI BK328.out 0; have hcz11_1 := cI BK328.out 1; have hcz11_2 := cI BK328.out 2; have hcz11_3 := cI BK328.out 3; have hfz11_0 := bF BK328.out 0; have hfz11_1 := bF BK328.out 1; have hfz11_2 := bF BK328.out 2; have hfz11_3 := bF BK328.out 3))
 go_ret
 exact ⟨xW, bl HB.out⟩

def laws_eqIn.f (a0_0 : Int) (a0_1 : Int) (a0_2 : Int) (a0_3 : Int) (a0_4 : Int) (a0_5 : Int) (a0_6 : Int) (a0_7 : Bool) (a1_0 : Int) (a1_1 : Int) (a1_2 : Int) (a1_3 : Int) (a1_4 : Int) (a1_5 : Int) (a1_6 : Int) (a1_7 : Bool) : Option (Bool) := if a0_0 = a1_0 then (if a0_1 = a1_1 then ((laws_eqVec.f a0_2 a0_3 a0_4 a0_5 a1_2 a1_3 a1_4 a1_5).bind fun t331 => (if t331 = true then (if a0_6 = a1_6 then (if (a0_7 != a1_7) = true then (some false) else (some true)) else (some false)) else (some false))) else (some false)) else (some false)
set_option maxHeartbeats 60000000 in
set_option maxRecDepth 100000 in
theorem laws_eqIn.calls (a0_0 : Int) (a0_1 : Int) (a0_2 : Int) (a0_3 : Int) (a0_4 : Int) (a0_5 : Int) (a0_6 : Int) (a0_7 : Bool) (a1_0 : Int) (a1_1 : Int) (a1_2 : Int) (a1_3 : Int) (a1_4 : Int) (a1_5 : Int) (a1_6 : Int) (a1_7 : Bool) (r : Bool) (w : World) (h : laws_eqIn.f a0_0 a0_1 a0_2 a0_3 a0_4 a0_5 a0_6 a0_7 a1_0 a1_1 a1_2 a1_3 a1_4 a1_5 a1_6 a1_7 = some r) :
  Calls Try.prog 61 #[.agg #[.int .i64 a0_0, .int .i64 a0_1, .int .i64 a0_2, .int .i64 a0_3, .int .i64 a0_4, .int .i64 a0_5, .int .i64 a0_6, .bool a0_7], .agg #[.int .i64 a1_0, .int .i64 a1_1, .int .i64 a1_2, .int .i64 a1_3, .int .i64 a1_4, .int .i64 a1_5, .int .i64 a1_6, .bool a1_7]] w fun e w' => e = .returned (.bool r) ∧ Below w.heap.size w w' := by
 have hu82 := Try.underlying82
 have hu42 := Try.underlying42
 have HB := aM (Below.refl w.heap.size w)
 have H : (if a0_0 = a1_0 then (if a0_1 = a1_1 then ((laws_eqVec.f a0_2 a0_3 a0_4 a0_5 a1_2 a1_3 a1_4 a1_5).bind fun t331 => (if t331 = true then (if a0_6 = a1_6 then (if (a0_7 != a1_7) = true then (some false) else (some true)) else (some false)) else (some false))) else (some false)) else (some false)) = some r := h
 clear h
 by_cases c3 : a0_0 = a1_0
 case neg =>
  rw [if_neg c3] at H
  have c3b0 : (a0_0 == a1_0) = false := beq_eq_false_iff_ne.mpr c3
  have c3b1 : (a0_0 != a1_0) = true := bne_iff_ne.mpr c3
  obtain rfl := Option.some.inj H
  go_enter Try.func61, Try.ntmps61
  go_wp2_with (first | ((with_reducible refine gate_dst (N := 2) rfl ?_); refine box_event ?hg (N := 2) ?hd (cs := #[.int .i64 a0_0, .int .i64 a0_1, .int .i64 a0_2, .int .i64 a0_3, .int .i64 a0_4, .int .i64 a0_5, .int .i64 a0_6, .bool a0_7]) (t := 82) ?hr ?_; (case hd => rfl); (case hg => rfl); (case hr => first | (go_simp; done) | (go_simp; rfl)); intro gb329 hg w44 hbox hb; have n0_ := aM (bS (bl HB.out) hb); have n1_ := aM (hbox); have n2_ := aM ((by rw [hg]; exact (below_size (bl HB.out)) : w.heap.size ≤ gb329)); have n3_ := aM ((by rw [hg]; exact (below_size (bl HB.out)) : w.heap.size ≤ gb329)); clear HB; have HB := n0_; have BK329 := n1_; have GW329 := n2_; have GE329 := n3_; clear n0_ n1_ n2_ n3_; clear hb hbox hg) | ((with_reducible refine gate_dst (N := 3) rfl ?_); refine box_event ?hg (N := 3) ?hd (cs := #[.int .i64 a1_0, .int .i64 a1_1, .int .i64 a1_2, .int .i64 a1_3, .int .i64 a1_4, .int .i64 a1_5, .int .i64 a1_6, .bool a1_7]) (t := 82) ?hr ?_; (case hd => rfl); (case hg => rfl); (case hr => first | (go_simp; done) | (go_simp; rfl)); intro gb330 hg w45 hbox hb; have n0_ := aM (bB (g := gb329) (o := .cells #[.int .i64 a0_0, .int .i64 a0_1, .int .i64 a0_2, .int .i64 a0_3, .int .i64 a0_4, .int .i64 a0_5, .int .i64 a0_6, .bool a0_7] 82 (0, 0)) (bk BK329.out) hb); have n1_ := aM (bS (bl HB.out) hb); have n2_ := aM (hbox); have n3_ := aM ((by rw [hg]; exact (below_size (bl HB.out)) : w.heap.size ≤ gb330)); have n4_ := aM ((by rw [hg]; exact (below_size (bl HB.out)) : w.heap.size ≤ gb330)); have n5_ := aM ((by rw [hg]; exact Nat.ne_of_lt (blk_lt (g := gb329) (o := .cells #[.int .i64 a0_0, .int .i64 a0_1, .int .i64 a0_2, .int .i64 a0_3, .int .i64 a0_4, .int .i64 a0_5, .int .i64 a0_6, .bool a0_7] 82 (0, 0)) (bk BK329.out)) : gb329 ≠ gb330)); have n6_ := aM ((by rw [hg]; exact Nat.ne_of_gt (blk_lt (g := gb329) (o := .cells #[.int .i64 a0_0, .int .i64 a0_1, .int .i64 a0_2, .int .i64 a0_3, .int .i64 a0_4, .int .i64 a0_5, .int .i64 a0_6, .bool a0_7] 82 (0, 0)) (bk BK329.out)) : gb330 ≠ gb329)); clear BK329 HB; have BK329 := n0_; have HB := n1_; have BK330 := n2_; have GW330 := n3_; have GE330 := n4_; have NB329_330 := n5_; have NB330_329 := n6_; clear n0_ n1_ n2_ n3_ n4_ n5_ n6_; clear hb hbox hg; have hnb46 := NB329_330.out; have hnc46 := NB330_329.out; have hcz47_0 := cI BK329.out 0; have hcz47_1 := cI BK329.out 1; have hcz47_2 := cI BK329.out 2; have hcz47_3 := cI BK329.out 3; have hcz47_4 := cI BK329.out 4; have hcz47_5 := cI BK329.out 5; have hcz47_6 := cI BK329.out 6; have hcz47_7 := cI BK329.out 7; have hfz47_0 := bF BK329.out 0; have hfz47_1 := bF BK329.out 1; have hfz47_2 := bF BK329.out 2; have hfz47_3 := bF BK329.out 3; have hfz47_4 := bF BK329.out 4; have hfz47_5 := bF BK329.out 5; have hfz47_6 := bF BK329.out 6; have hfz47_7 := bF BK329.out 7; have hcz48_0 := cI BK330.out 0; have hcz48_1 := cI BK330.out 1; have hcz48_2 := cI BK330.out 2; have hcz48_3 := cI BK330.out 3; have hcz48_4 := cI BK330.out 4; have hcz48_5 := cI BK330.out 5; have hcz48_6 := cI BK330.out 6; have hcz48_7 := cI BK330.out 7; have hfz48_0 := bF BK330.out 0; have hfz48_1 := bF BK330.out 1; have hfz48_2 := bF BK330.out 2; have hfz48_3 := bF BK330.out 3; have hfz48_4 := bF BK330.out 4; have hfz48_5 := bF BK330.out 5; have hfz48_6 := bF BK330.out 6; have hfz48_7 := bF BK330.out 7))
  go_ret
  exact ⟨xW, bl HB.out⟩
 rw [if_pos c3] at H
 have c3b0 : (a0_0 == a1_0) = true := beq_iff_eq.mpr c3
 have c3b1 : (a0_0 != a1_0) = false := bne_eq_false_iff_eq.mpr c3
 clear c3
 by_cases c4 : a0_1 = a1_1
 case neg =>
  rw [if_neg c4] at H
  have c4b0 : (a0_1 == a1_1) = false := beq_eq_false_iff_ne.mpr c4
  have c4b1 : (a0_1 != a1_1) = true := bne_iff_ne.mpr c4
  obtain rfl := Option.some.inj H
  go_enter Try.func61, Try.ntmps61
  go_wp2_with (first | ((with_reducible refine gate_dst (N := 2) rfl ?_); refine box_event ?hg (N := 2) ?hd (cs := #[.int .i64 a0_0, .int .i64 a0_1, .int .i64 a0_2, .int .i64 a0_3, .int .i64 a0_4, .int .i64 a0_5, .int .i64 a0_6, .bool a0_7]) (t := 82) ?hr ?_; (case hd => rfl); (case hg => rfl); (case hr => first | (go_simp; done) | (go_simp; rfl)); intro gb329 hg w39 hbox hb; have n0_ := aM (bS (bl HB.out) hb); have n1_ := aM (hbox); have n2_ := aM ((by rw [hg]; exact (below_size (bl HB.out)) : w.heap.size ≤ gb329)); have n3_ := aM ((by rw [hg]; exact (below_size (bl HB.out)) : w.heap.size ≤ gb329)); clear HB; have HB := n0_; have BK329 := n1_; have GW329 := n2_; have GE329 := n3_; clear n0_ n1_ n2_ n3_; clear hb hbox hg) | ((with_reducible refine gate_dst (N := 3) rfl ?_); refine box_event ?hg (N := 3) ?hd (cs := #[.int .i64 a1_0, .int .i64 a1_1, .int .i64 a1_2, .int .i64 a1_3, .int .i64 a1_4, .int .i64 a1_5, .int .i64 a1_6, .bool a1_7]) (t := 82) ?hr ?_; (case hd => rfl); (case hg => rfl); (case hr => first | (go_simp; done) | (go_simp; rfl)); intro gb330 hg w40 hbox hb; have n0_ := aM (bB (g := gb329) (o := .cells #[.int .i64 a0_0, .int .i64 a0_1, .int .i64 a0_2, .int .i64 a0_3, .int .i64 a0_4, .int .i64 a0_5, .int .i64 a0_6, .bool a0_7] 82 (0, 0)) (bk BK329.out) hb); have n1_ := aM (bS (bl HB.out) hb); have n2_ := aM (hbox); have n3_ := aM ((by rw [hg]; exact (below_size (bl HB.out)) : w.heap.size ≤ gb330)); have n4_ := aM ((by rw [hg]; exact (below_size (bl HB.out)) : w.heap.size ≤ gb330)); have n5_ := aM ((by rw [hg]; exact Nat.ne_of_lt (blk_lt (g := gb329) (o := .cells #[.int .i64 a0_0, .int .i64 a0_1, .int .i64 a0_2, .int .i64 a0_3, .int .i64 a0_4, .int .i64 a0_5, .int .i64 a0_6, .bool a0_7] 82 (0, 0)) (bk BK329.out)) : gb329 ≠ gb330)); have n6_ := aM ((by rw [hg]; exact Nat.ne_of_gt (blk_lt (g := gb329) (o := .cells #[.int .i64 a0_0, .int .i64 a0_1, .int .i64 a0_2, .int .i64 a0_3, .int .i64 a0_4, .int .i64 a0_5, .int .i64 a0_6, .bool a0_7] 82 (0, 0)) (bk BK329.out)) : gb330 ≠ gb329)); clear BK329 HB; have BK329 := n0_; have HB := n1_; have BK330 := n2_; have GW330 := n3_; have GE330 := n4_; have NB329_330 := n5_; have NB330_329 := n6_; clear n0_ n1_ n2_ n3_ n4_ n5_ n6_; clear hb hbox hg; have hnb41 := NB329_330.out; have hnc41 := NB330_329.out; have hcz42_0 := cI BK329.out 0; have hcz42_1 := cI BK329.out 1; have hcz42_2 := cI BK329.out 2; have hcz42_3 := cI BK329.out 3; have hcz42_4 := cI BK329.out 4; have hcz42_5 := cI BK329.out 5; have hcz42_6 := cI BK329.out 6; have hcz42_7 := cI BK329.out 7; have hfz42_0 := bF BK329.out 0; have hfz42_1 := bF BK329.out 1; have hfz42_2 := bF BK329.out 2; have hfz42_3 := bF BK329.out 3; have hfz42_4 := bF BK329.out 4; have hfz42_5 := bF BK329.out 5; have hfz42_6 := bF BK329.out 6; have hfz42_7 := bF BK329.out 7; have hcz43_0 := cI BK330.out 0; have hcz43_1 := cI BK330.out 1; have hcz43_2 := cI BK330.out 2; have hcz43_3 := cI BK330.out 3; have hcz43_4 := cI BK330.out 4; have hcz43_5 := cI BK330.out 5; have hcz43_6 := cI BK330.out 6; have hcz43_7 := cI BK330.out 7; have hfz43_0 := bF BK330.out 0; have hfz43_1 := bF BK330.out 1; have hfz43_2 := bF BK330.out 2; have hfz43_3 := bF BK330.out 3; have hfz43_4 := bF BK330.out 4; have hfz43_5 := bF BK330.out 5; have hfz43_6 := bF BK330.out 6; have hfz43_7 := bF BK330.out 7))
  go_ret
  exact ⟨xW, bl HB.out⟩
 rw [if_pos c4] at H
 have c4b0 : (a0_1 == a1_1) = true := beq_iff_eq.mpr c4
 have c4b1 : (a0_1 != a1_1) = false := bne_eq_false_iff_eq.mpr c4
 clear c4
 replace H := Option.bind_eq_some_iff.mp H
 obtain ⟨t331, A50, H⟩ := H
 replace H : (if t331 = true then (if a0_6 = a1_6 then (if (a0_7 != a1_7) = true then (some false) else (some true)) else (some false)) else (some false)) = some r := H
 have A5 := aM A50
 clear A50
 by_cases c6 : t331 = true
 case neg =>
  replace c6 := Bool.eq_false_iff.mpr c6
  subst c6
  have H1 : (some false) = some r := by rw [if_neg (show ¬ (false = true) by decide)] at H; exact H
  clear H
  have H := H1
  clear H1
  obtain rfl := Option.some.inj H
  go_enter Try.func61, Try.ntmps61
  go_wp2_with (first | ((with_reducible refine gate_dst (N := 2) rfl ?_); refine box_event ?hg (N := 2) ?hd (cs := #[.int .i64 a0_0, .int .i64 a0_1, .int .i64 a0_2, .int .i64 a0_3, .int .i64 a0_4, .int .i64 a0_5, .int .i64 a0_6, .bool a0_7]) (t := 82) ?hr ?_; (case hd => rfl); (case hg => rfl); (case hr => first | (go_simp; done) | (go_simp; rfl)); intro gb329 hg w33 hbox hb; have n0_ := aM (bS (bl HB.out) hb); have n1_ := aM (hbox); have n2_ := aM ((by rw [hg]; exact (below_size (bl HB.out)) : w.heap.size ≤ gb329)); have n3_ := aM ((by rw [hg]; exact (below_size (bl HB.out)) : w.heap.size ≤ gb329)); clear HB; have HB := n0_; have BK329 := n1_; have GW329 := n2_; have GE329 := n3_; clear n0_ n1_ n2_ n3_; clear hb hbox hg) | ((with_reducible refine gate_dst (N := 3) rfl ?_); refine box_event ?hg (N := 3) ?hd (cs := #[.int .i64 a1_0, .int .i64 a1_1, .int .i64 a1_2, .int .i64 a1_3, .int .i64 a1_4, .int .i64 a1_5, .int .i64 a1_6, .bool a1_7]) (t := 82) ?hr ?_; (case hd => rfl); (case hg => rfl); (case hr => first | (go_simp; done) | (go_simp; rfl)); intro gb330 hg w34 hbox hb; have n0_ := aM (bB (g := gb329) (o := .cells #[.int .i64 a0_0, .int .i64 a0_1, .int .i64 a0_2, .int .i64 a0_3, .int .i64 a0_4, .int .i64 a0_5, .int .i64 a0_6, .bool a0_7] 82 (0, 0)) (bk BK329.out) hb); have n1_ := aM (bS (bl HB.out) hb); have n2_ := aM (hbox); have n3_ := aM ((by rw [hg]; exact (below_size (bl HB.out)) : w.heap.size ≤ gb330)); have n4_ := aM ((by rw [hg]; exact (below_size (bl HB.out)) : w.heap.size ≤ gb330)); have n5_ := aM ((by rw [hg]; exact Nat.ne_of_lt (blk_lt (g := gb329) (o := .cells #[.int .i64 a0_0, .int .i64 a0_1, .int .i64 a0_2, .int .i64 a0_3, .int .i64 a0_4, .int .i64 a0_5, .int .i64 a0_6, .bool a0_7] 82 (0, 0)) (bk BK329.out)) : gb329 ≠ gb330)); have n6_ := aM ((by rw [hg]; exact Nat.ne_of_gt (blk_lt (g := gb329) (o := .cells #[.int .i64 a0_0, .int .i64 a0_1, .int .i64 a0_2, .int .i64 a0_3, .int .i64 a0_4, .int .i64 a0_5, .int .i64 a0_6, .bool a0_7] 82 (0, 0)) (bk BK329.out)) : gb330 ≠ gb329)); clear BK329 HB; have BK329 := n0_; have HB := n1_; have BK330 := n2_; have GW330 := n3_; have GE330 := n4_; have NB329_330 := n5_; have NB330_329 := n6_; clear n0_ n1_ n2_ n3_ n4_ n5_ n6_; clear hb hbox hg; have hnb35 := NB329_330.out; have hnc35 := NB330_329.out; have hcz36_0 := cI BK329.out 0; have hcz36_1 := cI BK329.out 1; have hcz36_2 := cI BK329.out 2; have hcz36_3 := cI BK329.out 3; have hcz36_4 := cI BK329.out 4; have hcz36_5 := cI BK329.out 5; have hcz36_6 := cI BK329.out 6; have hcz36_7 := cI BK329.out 7; have hfz36_0 := bF BK329.out 0; have hfz36_1 := bF BK329.out 1; have hfz36_2 := bF BK329.out 2; have hfz36_3 := bF BK329.out 3; have hfz36_4 := bF BK329.out 4; have hfz36_5 := bF BK329.out 5; have hfz36_6 := bF BK329.out 6; have hfz36_7 := bF BK329.out 7; have hcz37_0 := cI BK330.out 0; have hcz37_1 := cI BK330.out 1; have hcz37_2 := cI BK330.out 2; have hcz37_3 := cI BK330.out 3; have hcz37_4 := cI BK330.out 4; have hcz37_5 := cI BK330.out 5; have hcz37_6 := cI BK330.out 6; have hcz37_7 := cI BK330.out 7; have hfz37_0 := bF BK330.out 0; have hfz37_1 := bF BK330.out 1; have hfz37_2 := bF BK330.out 2; have hfz37_3 := bF BK330.out 3; have hfz37_4 := bF BK330.out 4; have hfz37_5 := bF BK330.out 5; have hfz37_6 := bF BK330.out 6; have hfz37_7 := bF BK330.out 7) | ((with_reducible refine gate_callee (f := 117) rfl ?_); refine goesL_ (some 19) rfl rfl Try.func117 (by kernel_rfl) rfl #[.agg #[.int .i64 a0_2, .int .i64 a0_3, .int .i64 a0_4, .int .i64 a0_5], .agg #[.int .i64 a1_2, .int .i64 a1_3, .int .i64 a1_4, .int .i64 a1_5]] rfl xR ?_; (with_reducible refine (laws_eqVec.calls a0_2 a0_3 a0_4 a0_5 a1_2 a1_3 a1_4 a1_5 false _ A5.out).mono ?_); rintro e w38 ⟨rfl, hb⟩; refine ⟨_, rfl, ?_⟩; have n0_ := aM (bB (g := gb329) (o := .cells #[.int .i64 a0_0, .int .i64 a0_1, .int .i64 a0_2, .int .i64 a0_3, .int .i64 a0_4, .int .i64 a0_5, .int .i64 a0_6, .bool a0_7] 82 (0, 0)) (bk BK329.out) hb); have n1_ := aM (bB (g := gb330) (o := .cells #[.int .i64 a1_0, .int .i64 a1_1, .int .i64 a1_2, .int .i64 a1_3, .int .i64 a1_4, .int .i64 a1_5, .int .i64 a1_6, .bool a1_7] 82 (0, 0)) (bk BK330.out) hb); have n2_ := aM (bS (bl HB.out) hb); clear BK329 BK330 HB; have BK329 := n0_; have BK330 := n1_; have HB := n2_; clear n0_ n1_ n2_; (try clear hb)))
  go_ret
  exact ⟨xW, bl HB.out⟩
 subst c6
 have H1 : (if a0_6 = a1_6 then (if (a0_7 != a1_7) = true then (some false) else (some true)) else (some false)) = some r := by rw [if_pos rfl] at H; exact H
 clear H
 have H := H1
 clear H1
 by_cases c7 : a0_6 = a1_6
 case neg =>
  rw [if_neg c7] at H
  have c7b0 : (a0_6 == a1_6) = false := beq_eq_false_iff_ne.mpr c7
  have c7b1 : (a0_6 != a1_6) = true := bne_iff_ne.mpr c7
  obtain rfl := Option.some.inj H
  go_enter Try.func61, Try.ntmps61
  go_wp2_with (first | ((with_reducible refine gate_dst (N := 2) rfl ?_); refine box_event ?hg (N := 2) ?hd (cs := #[.int .i64 a0_0, .int .i64 a0_1, .int .i64 a0_2, .int .i64 a0_3, .int .i64 a0_4, .int .i64 a0_5, .int .i64 a0_6, .bool a0_7]) (t := 82) ?hr ?_; (case hd => rfl); (case hg => rfl); (case hr => first | (go_simp; done) | (go_simp; rfl)); intro gb329 hg w25 hbox hb; have n0_ := aM (bS (bl HB.out) hb); have n1_ := aM (hbox); have n2_ := aM ((by rw [hg]; exact (below_size (bl HB.out)) : w.heap.size ≤ gb329)); have n3_ := aM ((by rw [hg]; exact (below_size (bl HB.out)) : w.heap.size ≤ gb329)); clear HB; have HB := n0_; have BK329 := n1_; have GW329 := n2_; have GE329 := n3_; clear n0_ n1_ n2_ n3_; clear hb hbox hg) | ((with_reducible refine gate_dst (N := 3) rfl ?_); refine box_event ?hg (N := 3) ?hd (cs := #[.int .i64 a1_0, .int .i64 a1_1, .int .i64 a1_2, .int .i64 a1_3, .int .i64 a1_4, .int .i64 a1_5, .int .i64 a1_6, .bool a1_7]) (t := 82) ?hr ?_; (case hd => rfl); (case hg => rfl); (case hr => first | (go_simp; done) | (go_simp; rfl)); intro gb330 hg w26 hbox hb; have n0_ := aM (bB (g := gb329) (o := .cells #[.int .i64 a0_0, .int .i64 a0_1, .int .i64 a0_2, .int .i64 a0_3, .int .i64 a0_4, .int .i64 a0_5, .int .i64 a0_6, .bool a0_7] 82 (0, 0)) (bk BK329.out) hb); have n1_ := aM (bS (bl HB.out) hb); have n2_ := aM (hbox); have n3_ := aM ((by rw [hg]; exact (below_size (bl HB.out)) : w.heap.size ≤ gb330)); have n4_ := aM ((by rw [hg]; exact (below_size (bl HB.out)) : w.heap.size ≤ gb330)); have n5_ := aM ((by rw [hg]; exact Nat.ne_of_lt (blk_lt (g := gb329) (o := .cells #[.int .i64 a0_0, .int .i64 a0_1, .int .i64 a0_2, .int .i64 a0_3, .int .i64 a0_4, .int .i64 a0_5, .int .i64 a0_6, .bool a0_7] 82 (0, 0)) (bk BK329.out)) : gb329 ≠ gb330)); have n6_ := aM ((by rw [hg]; exact Nat.ne_of_gt (blk_lt (g := gb329) (o := .cells #[.int .i64 a0_0, .int .i64 a0_1, .int .i64 a0_2, .int .i64 a0_3, .int .i64 a0_4, .int .i64 a0_5, .int .i64 a0_6, .bool a0_7] 82 (0, 0)) (bk BK329.out)) : gb330 ≠ gb329)); clear BK329 HB; have BK329 := n0_; have HB := n1_; have BK330 := n2_; have GW330 := n3_; have GE330 := n4_; have NB329_330 := n5_; have NB330_329 := n6_; clear n0_ n1_ n2_ n3_ n4_ n5_ n6_; clear hb hbox hg; have hnb27 := NB329_330.out; have hnc27 := NB330_329.out; have hcz28_0 := cI BK329.out 0; have hcz28_1 := cI BK329.out 1; have hcz28_2 := cI BK329.out 2; have hcz28_3 := cI BK329.out 3; have hcz28_4 := cI BK329.out 4; have hcz28_5 := cI BK329.out 5; have hcz28_6 := cI BK329.out 6; have hcz28_7 := cI BK329.out 7; have hfz28_0 := bF BK329.out 0; have hfz28_1 := bF BK329.out 1; have hfz28_2 := bF BK329.out 2; have hfz28_3 := bF BK329.out 3; have hfz28_4 := bF BK329.out 4; have hfz28_5 := bF BK329.out 5; have hfz28_6 := bF BK329.out 6; have hfz28_7 := bF BK329.out 7; have hcz29_0 := cI BK330.out 0; have hcz29_1 := cI BK330.out 1; have hcz29_2 := cI BK330.out 2; have hcz29_3 := cI BK330.out 3; have hcz29_4 := cI BK330.out 4; have hcz29_5 := cI BK330.out 5; have hcz29_6 := cI BK330.out 6; have hcz29_7 := cI BK330.out 7; have hfz29_0 := bF BK330.out 0; have hfz29_1 := bF BK330.out 1; have hfz29_2 := bF BK330.out 2; have hfz29_3 := bF BK330.out 3; have hfz29_4 := bF BK330.out 4; have hfz29_5 := bF BK330.out 5; have hfz29_6 := bF BK330.out 6; have hfz29_7 := bF BK330.out 7) | ((with_reducible refine gate_callee (f := 117) rfl ?_); refine goesL_ (some 19) rfl rfl Try.func117 (by kernel_rfl) rfl #[.agg #[.int .i64 a0_2, .int .i64 a0_3, .int .i64 a0_4, .int .i64 a0_5], .agg #[.int .i64 a1_2, .int .i64 a1_3, .int .i64 a1_4, .int .i64 a1_5]] rfl xR ?_; (with_reducible refine (laws_eqVec.calls a0_2 a0_3 a0_4 a0_5 a1_2 a1_3 a1_4 a1_5 true _ A5.out).mono ?_); rintro e w30 ⟨rfl, hb⟩; refine ⟨_, rfl, ?_⟩; have n0_ := aM (bB (g := gb329) (o := .cells #[.int .i64 a0_0, .int .i64 a0_1, .int .i64 a0_2, .int .i64 a0_3, .int .i64 a0_4, .int .i64 a0_5, .int .i64 a0_6, .bool a0_7] 82 (0, 0)) (bk BK329.out) hb); have n1_ := aM (bB (g := gb330) (o := .cells #[.int .i64 a1_0, .int .i64 a1_1, .int .i64 a1_2, .int .i64 a1_3, .int .i64 a1_4, .int .i64 a1_5, .int .i64 a1_6, .bool a1_7] 82 (0, 0)) (bk BK330.out) hb); have n2_ := aM (bS (bl HB.out) hb); clear BK329 BK330 HB; have BK329 := n0_; have BK330 := n1_; have HB := n2_; clear n0_ n1_ n2_; (try clear hb); have hcz31_0 := cI BK329.out 0; have hcz31_1 := cI BK329.out 1; have hcz31_2 := cI BK329.out 2; have hcz31_3 := cI BK329.out 3; have hcz31_4 := cI BK329.out 4; have hcz31_5 := cI BK329.out 5; have hcz31_6 := cI BK329.out 6; have hcz31_7 := cI BK329.out 7; have hfz31_0 := bF BK329.out 0; have hfz31_1 := bF BK329.out 1; have hfz31_2 := bF BK329.out 2; have hfz31_3 := bF BK329.out 3; have hfz31_4 := bF BK329.out 4; have hfz31_5 := bF BK329.out 5; have hfz31_6 := bF BK329.out 6; have hfz31_7 := bF BK329.out 7; have hcz32_0 := cI BK330.out 0; have hcz32_1 := cI BK330.out 1; have hcz32_2 := cI BK330.out 2; have hcz32_3 := cI BK330.out 3; have hcz32_4 := cI BK330.out 4; have hcz32_5 := cI BK330.out 5; have hcz32_6 := cI BK330.out 6; have hcz32_7 := cI BK330.out 7; have hfz32_0 := bF BK330.out 0; have hfz32_1 := bF BK330.out 1; have hfz32_2 := bF BK330.out 2; have hfz32_3 := bF BK330.out 3; have hfz32_4 := bF BK330.out 4; have hfz32_5 := bF BK330.out 5; have hfz32_6 := bF BK330.out 6; have hfz32_7 := bF BK330.out 7))
  go_ret
  exact ⟨xW, bl HB.out⟩
 rw [if_pos c7] at H
 have c7b0 : (a0_6 == a1_6) = true := beq_iff_eq.mpr c7
 have c7b1 : (a0_6 != a1_6) = false := bne_eq_false_iff_eq.mpr c7
 clear c7
 by_cases c8 : (a0_7 != a1_7) = true
 case neg =>
  rw [if_neg c8] at H
  have c8b0 : (a0_7 != a1_7) = false := by simpa using c8
  (try (have c8b1 : decide (a0_7 = a1_7) = true := by simpa using c8))
  (try (have c8b2 : (a0_7 == a1_7) = true := by simpa using c8))
  clear c8
  obtain rfl := Option.some.inj H
  go_enter Try.func61, Try.ntmps61
  go_wp2_with (first | ((with_reducible refine gate_dst (N := 2) rfl ?_); refine box_event ?hg (N := 2) ?hd (cs := #[.int .i64 a0_0, .int .i64 a0_1, .int .i64 a0_2, .int .i64 a0_3, .int .i64 a0_4, .int .i64 a0_5, .int .i64 a0_6, .bool a0_7]) (t := 82) ?hr ?_; (case hd => rfl); (case hg => rfl); (case hr => first | (go_simp; done) | (go_simp; rfl)); intro gb329 hg w17 hbox hb; have n0_ := aM (bS (bl HB.out) hb); have n1_ := aM (hbox); have n2_ := aM ((by rw [hg]; exact (below_size (bl HB.out)) : w.heap.size ≤ gb329)); have n3_ := aM ((by rw [hg]; exact (below_size (bl HB.out)) : w.heap.size ≤ gb329)); clear HB; have HB := n0_; have BK329 := n1_; have GW329 := n2_; have GE329 := n3_; clear n0_ n1_ n2_ n3_; clear hb hbox hg) | ((with_reducible refine gate_dst (N := 3) rfl ?_); refine box_event ?hg (N := 3) ?hd (cs := #[.int .i64 a1_0, .int .i64 a1_1, .int .i64 a1_2, .int .i64 a1_3, .int .i64 a1_4, .int .i64 a1_5, .int .i64 a1_6, .bool a1_7]) (t := 82) ?hr ?_; (case hd => rfl); (case hg => rfl); (case hr => first | (go_simp; done) | (go_simp; rfl)); intro gb330 hg w18 hbox hb; have n0_ := aM (bB (g := gb329) (o := .cells #[.int .i64 a0_0, .int .i64 a0_1, .int .i64 a0_2, .int .i64 a0_3, .int .i64 a0_4, .int .i64 a0_5, .int .i64 a0_6, .bool a0_7] 82 (0, 0)) (bk BK329.out) hb); have n1_ := aM (bS (bl HB.out) hb); have n2_ := aM (hbox); have n3_ := aM ((by rw [hg]; exact (below_size (bl HB.out)) : w.heap.size ≤ gb330)); have n4_ := aM ((by rw [hg]; exact (below_size (bl HB.out)) : w.heap.size ≤ gb330)); have n5_ := aM ((by rw [hg]; exact Nat.ne_of_lt (blk_lt (g := gb329) (o := .cells #[.int .i64 a0_0, .int .i64 a0_1, .int .i64 a0_2, .int .i64 a0_3, .int .i64 a0_4, .int .i64 a0_5, .int .i64 a0_6, .bool a0_7] 82 (0, 0)) (bk BK329.out)) : gb329 ≠ gb330)); have n6_ := aM ((by rw [hg]; exact Nat.ne_of_gt (blk_lt (g := gb329) (o := .cells #[.int .i64 a0_0, .int .i64 a0_1, .int .i64 a0_2, .int .i64 a0_3, .int .i64 a0_4, .int .i64 a0_5, .int .i64 a0_6, .bool a0_7] 82 (0, 0)) (bk BK329.out)) : gb330 ≠ gb329)); clear BK329 HB; have BK329 := n0_; have HB := n1_; have BK330 := n2_; have GW330 := n3_; have GE330 := n4_; have NB329_330 := n5_; have NB330_329 := n6_; clear n0_ n1_ n2_ n3_ n4_ n5_ n6_; clear hb hbox hg; have hnb19 := NB329_330.out; have hnc19 := NB330_329.out; have hcz20_0 := cI BK329.out 0; have hcz20_1 := cI BK329.out 1; have hcz20_2 := cI BK329.out 2; have hcz20_3 := cI BK329.out 3; have hcz20_4 := cI BK329.out 4; have hcz20_5 := cI BK329.out 5; have hcz20_6 := cI BK329.out 6; have hcz20_7 := cI BK329.out 7; have hfz20_0 := bF BK329.out 0; have hfz20_1 := bF BK329.out 1; have hfz20_2 := bF BK329.out 2; have hfz20_3 := bF BK329.out 3; have hfz20_4 := bF BK329.out 4; have hfz20_5 := bF BK329.out 5; have hfz20_6 := bF BK329.out 6; have hfz20_7 := bF BK329.out 7; have hcz21_0 := cI BK330.out 0; have hcz21_1 := cI BK330.out 1; have hcz21_2 := cI BK330.out 2; have hcz21_3 := cI BK330.out 3; have hcz21_4 := cI BK330.out 4; have hcz21_5 := cI BK330.out 5; have hcz21_6 := cI BK330.out 6; have hcz21_7 := cI BK330.out 7; have hfz21_0 := bF BK330.out 0; have hfz21_1 := bF BK330.out 1; have hfz21_2 := bF BK330.out 2; have hfz21_3 := bF BK330.out 3; have hfz21_4 := bF BK330.out 4; have hfz21_5 := bF BK330.out 5; have hfz21_6 := bF BK330.out 6; have hfz21_7 := bF BK330.out 7) | ((with_reducible refine gate_callee (f := 117) rfl ?_); refine goesL_ (some 19) rfl rfl Try.func117 (by kernel_rfl) rfl #[.agg #[.int .i64 a0_2, .int .i64 a0_3, .int .i64 a0_4, .int .i64 a0_5], .agg #[.int .i64 a1_2, .int .i64 a1_3, .int .i64 a1_4, .int .i64 a1_5]] rfl xR ?_; (with_reducible refine (laws_eqVec.calls a0_2 a0_3 a0_4 a0_5 a1_2 a1_3 a1_4 a1_5 true _ A5.out).mono ?_); rintro e w22 ⟨rfl, hb⟩; refine ⟨_, rfl, ?_⟩; have n0_ := aM (bB (g := gb329) (o := .cells #[.int .i64 a0_0, .int .i64 a0_1, .int .i64 a0_2, .int .i64 a0_3, .int .i64 a0_4, .int .i64 a0_5, .int .i64 a0_6, .bool a0_7] 82 (0, 0)) (bk BK329.out) hb); have n1_ := aM (bB (g := gb330) (o := .cells #[.int .i64 a1_0, .int .i64 a1_1, .int .i64 a1_2, .int .i64 a1_3, .int .i64 a1_4, .int .i64 a1_5, .int .i64 a1_6, .bool a1_7] 82 (0, 0)) (bk BK330.out) hb); have n2_ := aM (bS (bl HB.out) hb); clear BK329 BK330 HB; have BK329 := n0_; have BK330 := n1_; have HB := n2_; clear n0_ n1_ n2_; (try clear hb); have hcz23_0 := cI BK329.out 0; have hcz23_1 := cI BK329.out 1; have hcz23_2 := cI BK329.out 2; have hcz23_3 := cI BK329.out 3; have hcz23_4 := cI BK329.out 4; have hcz23_5 := cI BK329.out 5; have hcz23_6 := cI BK329.out 6; have hcz23_7 := cI BK329.out 7; have hfz23_0 := bF BK329.out 0; have hfz23_1 := bF BK329.out 1; have hfz23_2 := bF BK329.out 2; have hfz23_3 := bF BK329.out 3; have hfz23_4 := bF BK329.out 4; have hfz23_5 := bF BK329.out 5; have hfz23_6 := bF BK329.out 6; have hfz23_7 := bF BK329.out 7; have hcz24_0 := cI BK330.out 0; have hcz24_1 := cI BK330.out 1; have hcz24_2 := cI BK330.out 2; have hcz24_3 := cI BK330.out 3; have hcz24_4 := cI BK330.out 4; have hcz24_5 := cI BK330.out 5; have hcz24_6 := cI BK330.out 6; have hcz24_7 := cI BK330.out 7; have hfz24_0 := bF BK330.out 0; have hfz24_1 := bF BK330.out 1; have hfz24_2 := bF BK330.out 2; have hfz24_3 := bF BK330.out 3; have hfz24_4 := bF BK330.out 4; have hfz24_5 := bF BK330.out 5; have hfz24_6 := bF BK330.out 6; have hfz24_7 := bF BK330.out 7))
  go_ret
  exact ⟨xW, bl HB.out⟩
 rw [if_pos c8] at H
 have c8b0 : (a0_7 != a1_7) = true := c8
 (try (have c8b1 : decide (a0_7 = a1_7) = false := by simpa using c8))
 (try (have c8b2 : (a0_7 == a1_7) = false := by simpa using c8))
 (try (have c8b3 : ¬ (a0_7 = a1_7) := by simpa using c8))
 clear c8
 obtain rfl := Option.some.inj H
 go_enter Try.func61, Try.ntmps61
 go_wp2_with (first | ((with_reducible refine gate_dst (N := 2) rfl ?_); refine box_event ?hg (N := 2) ?hd (cs := #[.int .i64 a0_0, .int .i64 a0_1, .int .i64 a0_2, .int .i64 a0_3, .int .i64 a0_4, .int .i64 a0_5, .int .i64 a0_6, .bool a0_7]) (t := 82) ?hr ?_; (case hd => rfl); (case hg => rfl); (case hr => first | (go_simp; done) | (go_simp; rfl)); intro gb329 hg w9 hbox hb; have n0_ := aM (bS (bl HB.out) hb); have n1_ := aM (hbox); have n2_ := aM ((by rw [hg]; exact (below_size (bl HB.out)) : w.heap.size ≤ gb329)); have n3_ := aM ((by rw [hg]; exact (below_size (bl HB.out)) : w.heap.size ≤ gb329)); clear HB; have HB := n0_; have BK329 := n1_; have GW329 := n2_; have GE329 := n3_; clear n0_ n1_ n2_ n3_; clear hb hbox hg) | ((with_reducible refine gate_dst (N := 3) rfl ?_); refine box_event ?hg (N := 3) ?hd (cs := #[.int .i64 a1_0, .int .i64 a1_1, .int .i64 a1_2, .int .i64 a1_3, .int .i64 a1_4, .int .i64 a1_5, .int .i64 a1_6, .bool a1_7]) (t := 82) ?hr ?_; (case hd => rfl); (case hg => rfl); (case hr => first | (go_simp; done) | (go_simp; rfl)); intro gb330 hg w10 hbox hb; have n0_ := aM (bB (g := gb329) (o := .cells #[.int .i64 a0_0, .int .i64 a0_1, .int .i64 a0_2, .int .i64 a0_3, .int .i64 a0_4, .int .i64 a0_5, .int .i64 a0_6, .bool a0_7] 82 (0, 0)) (bk BK329.out) hb); have n1_ := aM (bS (bl HB.out) hb); have n2_ := aM (hbox); have n3_ := aM ((by rw [hg]; exact (below_size (bl HB.out)) : w.heap.size ≤ gb330)); have n4_ := aM ((by rw [hg]; exact (below_size (bl HB.out)) : w.heap.size ≤ gb330)); have n5_ := aM ((by rw [hg]; exact Nat.ne_of_lt (blk_lt (g := gb329) (o := .cells #[.int .i64 a0_0, .int .i64 a0_1, .int .i64 a0_2, .int .i64 a0_3, .int .i64 a0_4, .int .i64 a0_5, .int .i64 a0_6, .bool a0_7] 82 (0, 0)) (bk BK329.out)) : gb329 ≠ gb330)); have n6_ := aM ((by rw [hg]; exact Nat.ne_of_gt (blk_lt (g := gb329) (o := .cells #[.int .i64 a0_0, .int .i64 a0_1, .int .i64 a0_2, .int .i64 a0_3, .int .i64 a0_4, .int .i64 a0_5, .int .i64 a0_6, .bool a0_7] 82 (0, 0)) (bk BK329.out)) : gb330 ≠ gb329)); clear BK329 HB; have BK329 := n0_; have HB := n1_; have BK330 := n2_; have GW330 := n3_; have GE330 := n4_; have NB329_330 := n5_; have NB330_329 := n6_; clear n0_ n1_ n2_ n3_ n4_ n5_ n6_; clear hb hbox hg; have hnb11 := NB329_330.out; have hnc11 := NB330_329.out; have hcz12_0 := cI BK329.out 0; have hcz12_1 := cI BK329.out 1; have hcz12_2 := cI BK329.out 2; have hcz12_3 := cI BK329.out 3; have hcz12_4 := cI BK329.out 4; have hcz12_5 := cI BK329.out 5; have hcz12_6 := cI BK329.out 6; have hcz12_7 := cI BK329.out 7; have hfz12_0 := bF BK329.out 0; have hfz12_1 := bF BK329.out 1; have hfz12_2 := bF BK329.out 2; have hfz12_3 := bF BK329.out 3; have hfz12_4 := bF BK329.out 4; have hfz12_5 := bF BK329.out 5; have hfz12_6 := bF BK329.out 6; have hfz12_7 := bF BK329.out 7; have hcz13_0 := cI BK330.out 0; have hcz13_1 := cI BK330.out 1; have hcz13_2 := cI BK330.out 2; have hcz13_3 := cI BK330.out 3; have hcz13_4 := cI BK330.out 4; have hcz13_5 := cI BK330.out 5; have hcz13_6 := cI BK330.out 6; have hcz13_7 := cI BK330.out 7; have hfz13_0 := bF BK330.out 0; have hfz13_1 := bF BK330.out 1; have hfz13_2 := bF BK330.out 2; have hfz13_3 := bF BK330.out 3; have hfz13_4 := bF BK330.out 4; have hfz13_5 := bF BK330.out 5; have hfz13_6 := bF BK330.out 6; have hfz13_7 := bF BK330.out 7) | ((with_reducible refine gate_callee (f := 117) rfl ?_); refine goesL_ (some 19) rfl rfl Try.func117 (by kernel_rfl) rfl #[.agg #[.int .i64 a0_2, .int .i64 a0_3, .int .i64 a0_4, .int .i64 a0_5], .agg #[.int .i64 a1_2, .int .i64 a1_3, .int .i64 a1_4, .int .i64 a1_5]] rfl xR ?_; (with_reducible refine (laws_eqVec.calls a0_2 a0_3 a0_4 a0_5 a1_2 a1_3 a1_4 a1_5 true _ A5.out).mono ?_); rintro e w14 ⟨rfl, hb⟩; refine ⟨_, rfl, ?_⟩; have n0_ := aM (bB (g := gb329) (o := .cells #[.int .i64 a0_0, .int .i64 a0_1, .int .i64 a0_2, .int .i64 a0_3, .int .i64 a0_4, .int .i64 a0_5, .int .i64 a0_6, .bool a0_7] 82 (0, 0)) (bk BK329.out) hb); have n1_ := aM (bB (g := gb330) (o := .cells #[.int .i64 a1_0, .int .i64 a1_1, .int .i64 a1_2, .int .i64 a1_3, .int .i64 a1_4, .int .i64 a1_5, .int .i64 a1_6, .bool a1_7] 82 (0, 0)) (bk BK330.out) hb); have n2_ := aM (bS (bl HB.out) hb); clear BK329 BK330 HB; have BK329 := n0_; have BK330 := n1_; have HB := n2_; clear n0_ n1_ n2_; (try clear hb); have hcz15_0 := cI BK329.out 0; have hcz15_1 := cI BK329.out 1; have hcz15_2 := cI BK329.out 2; have hcz15_3 := cI BK329.out 3; have hcz15_4 := cI BK329.out 4; have hcz15_5 := cI BK329.out 5; have hcz15_6 := cI BK329.out 6; have hcz15_7 := cI BK329.out 7; have hfz15_0 := bF BK329.out 0; have hfz15_1 := bF BK329.out 1; have hfz15_2 := bF BK329.out 2; have hfz15_3 := bF BK329.out 3; have hfz15_4 := bF BK329.out 4; have hfz15_5 := bF BK329.out 5; have hfz15_6 := bF BK329.out 6; have hfz15_7 := bF BK329.out 7; have hcz16_0 := cI BK330.out 0; have hcz16_1 := cI BK330.out 1; have hcz16_2 := cI BK330.out 2; have hcz16_3 := cI BK330.out 3; have hcz16_4 := cI BK330.out 4; have hcz16_5 := cI BK330.out 5; have hcz16_6 := cI BK330.out 6; have hcz16_7 := cI BK330.out 7; have hfz16_0 := bF BK330.out 0; have hfz16_1 := bF BK330.out 1; have hfz16_2 := bF BK330.out 2; have hfz16_3 := bF BK330.out 3; have hfz16_4 := bF BK330.out 4; have hfz16_5 := bF BK330.out 5; have hfz16_6 := bF BK330.out 6; have hfz16_7 := bF BK330.out 7))
 go_ret
 exact ⟨xW, bl HB.out⟩

end Go.Proofs.Ytjaldondohddpaa.PFnExactInOf
