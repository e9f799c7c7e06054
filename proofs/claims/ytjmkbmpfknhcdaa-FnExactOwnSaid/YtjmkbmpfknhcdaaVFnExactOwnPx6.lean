/- Of the proof of laws.FnExactOwn: a part. No condition beyond what its theorems say. -/
import Derived.Test.YtjmkbmpfknhcdaaVFnExactOwnPx0
import Derived.Test.YtjmkbmpfknhcdaaVFnExactOwnPx5
namespace Go.Proofs.Ytjmkbmpfknhcdaa.PFnExactOwn
open Go.RowKit Go.Proofs.YtjmkbmpfknhcdaaW.PrintWords Go.Proofs.YtjmkbmpfknhcdaaW.PrintLast Go.Proofs.YtjmkbmpfknhcdaaW.PrintMore
attribute [local go_sem] max2_int min2_int max_two min_two max_three min_three max_four min_four   -- for this text's walks alone
set_option linter.unusedVariables false
set_option linter.unusedSimpArgs false

mutual
def spec_RootPort.l0 : Nat → Int → Int → Int → List (S109) → Option (Int × Bool)
 | 0, _, _, _, _ => none
 | k + 1, x4, x5, x171000, x171001 => if x5 < (x171001.length : Int) then ((spec_BridgeOk.f k x171000 x171001).bind fun t171 => (spec_RootPort.j1 k x4 x5 t171 x171000 x171001)) else (spec_RootPort.j1 k x4 x5 false x171000 x171001)
def spec_RootPort.j1 : Nat → Int → Int → Bool → Int → List (S109) → Option (Int × Bool)
 | 0, _, _, _, _, _ => none
 | k + 1, x4, x5, x15, x171000, x171001 => if x15 = true then (if 0 ≤ x5 then (if x5 < (x171001.length : Int) then (if ((rd_T109 x171001 x5).f1 = true) then (if ((rd_T109 x171001 x5).f2.f2) = x171000 then (spec_RootPort.j2 k x4 x5 true x171000 x171001 ((rd_T109 x171001 x5).f0) ((rd_T109 x171001 x5).f1) ((rd_T109 x171001 x5).f2.f0) ((rd_T109 x171001 x5).f2.f1) ((rd_T109 x171001 x5).f2.f2) ((rd_T109 x171001 x5).f2.f3) ((rd_T109 x171001 x5).f3) ((rd_T109 x171001 x5).f4) ((rd_T109 x171001 x5).f5) ((rd_T109 x171001 x5).f6) ((rd_T109 x171001 x5).f7)) else (if ((rd_T109 x171001 x5).f2.f0) ≥ x171000 then (spec_RootPort.j2 k x4 x5 true x171000 x171001 ((rd_T109 x171001 x5).f0) ((rd_T109 x171001 x5).f1) ((rd_T109 x171001 x5).f2.f0) ((rd_T109 x171001 x5).f2.f1) ((rd_T109 x171001 x5).f2.f2) ((rd_T109 x171001 x5).f2.f3) ((rd_T109 x171001 x5).f3) ((rd_T109 x171001 x5).f4) ((rd_T109 x171001 x5).f5) ((rd_T109 x171001 x5).f6) ((rd_T109 x171001 x5).f7)) else (if ((rd_T109 x171001 x5).f2.f1) ≥ 20 then (spec_RootPort.j2 k x4 x5 true x171000 x171001 ((rd_T109 x171001 x5).f0) ((rd_T109 x171001 x5).f1) ((rd_T109 x171001 x5).f2.f0) ((rd_T109 x171001 x5).f2.f1) ((rd_T109 x171001 x5).f2.f2) ((rd_T109 x171001 x5).f2.f3) ((rd_T109 x171001 x5).f3) ((rd_T109 x171001 x5).f4) ((rd_T109 x171001 x5).f5) ((rd_T109 x171001 x5).f6) ((rd_T109 x171001 x5).f7)) else (spec_RootPort.j2 k x4 x5 (decide (((rd_T109 x171001 x5).f3) ≥ 8)) x171000 x171001 ((rd_T109 x171001 x5).f0) ((rd_T109 x171001 x5).f1) ((rd_T109 x171001 x5).f2.f0) ((rd_T109 x171001 x5).f2.f1) ((rd_T109 x171001 x5).f2.f2) ((rd_T109 x171001 x5).f2.f3) ((rd_T109 x171001 x5).f3) ((rd_T109 x171001 x5).f4) ((rd_T109 x171001 x5).f5) ((rd_T109 x171001 x5).f6) ((rd_T109 x171001 x5).f7))))) else (spec_RootPort.j2 k x4 x5 true x171000 x171001 ((rd_T109 x171001 x5).f0) ((rd_T109 x171001 x5).f1) ((rd_T109 x171001 x5).f2.f0) ((rd_T109 x171001 x5).f2.f1) ((rd_T109 x171001 x5).f2.f2) ((rd_T109 x171001 x5).f2.f3) ((rd_T109 x171001 x5).f3) ((rd_T109 x171001 x5).f4) ((rd_T109 x171001 x5).f5) ((rd_T109 x171001 x5).f6) ((rd_T109 x171001 x5).f7))) else (none)) else (none)) else (some (x4, decide (x4 ≥ 0)))
def spec_RootPort.j2 : Nat → Int → Int → Bool → Int → List (S109) → Bool → Bool → Int → Int → Int → Int → Int → Int → Int → Int → Bool → Option (Int × Bool)
 | 0, _, _, _, _, _, _, _, _, _, _, _, _, _, _, _, _ => none
 | k + 1, x4, x5, x52, x171000, x171001, x174000, x174001, x174002, x174003, x174004, x174005, x174006, x174007, x174008, x174009, x174010 => if x52 = true then (spec_RootPort.l0 k x4 (wrap64 (x5 + 1)) x171000 x171001) else (if x4 < 0 then (spec_RootPort.l0 k x5 (wrap64 (x5 + 1)) x171000 x171001) else (if 0 ≤ x4 then (if x4 < (x171001.length : Int) then ((spec_Better.f x174002 x174003 x174004 x174005 ((rd_T109 x171001 x4).f2.f0) ((rd_T109 x171001 x4).f2.f1) ((rd_T109 x171001 x4).f2.f2) ((rd_T109 x171001 x4).f2.f3)).bind fun t175 => (if t175 = true then (spec_RootPort.l0 k x5 (wrap64 (x5 + 1)) x171000 x171001) else (spec_RootPort.l0 k x4 (wrap64 (x5 + 1)) x171000 x171001))) else (none)) else (none)))
end
def spec_RootPort.f (k : Nat) (a0_0 : Int) (l0_1 : List (S109)) : Option (Int × Bool) := spec_RootPort.l0 k (-1) 0 a0_0 l0_1
theorem spec_RootPort.mono_l : ∀ k, (∀ y0 y1 y2 y3, LeO (spec_RootPort.l0 k y0 y1 y2 y3) (spec_RootPort.l0 (k + 1) y0 y1 y2 y3)) ∧ (∀ y0 y1 y2 y3 y4, LeO (spec_RootPort.j1 k y0 y1 y2 y3 y4) (spec_RootPort.j1 (k + 1) y0 y1 y2 y3 y4)) ∧ (∀ y0 y1 y2 y3 y4 y5 y6 y7 y8 y9 y10 y11 y12 y13 y14 y15, LeO (spec_RootPort.j2 k y0 y1 y2 y3 y4 y5 y6 y7 y8 y9 y10 y11 y12 y13 y14 y15) (spec_RootPort.j2 (k + 1) y0 y1 y2 y3 y4 y5 y6 y7 y8 y9 y10 y11 y12 y13 y14 y15))
 | 0 => ⟨fun _ _ _ _ r h => by simp [spec_RootPort.l0] at h, fun _ _ _ _ _ r h => by simp [spec_RootPort.j1] at h, fun _ _ _ _ _ _ _ _ _ _ _ _ _ _ _ _ r h => by simp [spec_RootPort.j2] at h⟩
 | k + 1 => by
  obtain ⟨ih0, ih1, ih2⟩ := spec_RootPort.mono_l k
  refine ⟨?_, ?_, ?_⟩
  ·intro y0 y1 y2 y3
   unfold spec_RootPort.l0
   repeat' first
   | (with_reducible exact ih0 _ _ _ _)
   | (with_reducible exact ih1 _ _ _ _ _)
   | (with_reducible exact ih2 _ _ _ _ _ _ _ _ _ _ _ _ _ _ _ _)
   | (with_reducible exact spec_BridgeOk.mono _ _ _)
   | (with_reducible exact LeO.refl _)
   | (with_reducible exact LeO.none _)
   | (with_reducible refine LeO.ite ?_ ?_)
   | (with_reducible refine LeO.bind ?_ (fun _ => ?_))
   | exact ih0 _ _ _ _
   | exact ih1 _ _ _ _ _
   | exact ih2 _ _ _ _ _ _ _ _ _ _ _ _ _ _ _ _
   | exact spec_BridgeOk.mono _ _ _
   | exact LeO.none _
   | refine LeO.ite ?_ ?_
   | refine LeO.bind ?_ (fun _ => ?_)
  ·intro y0 y1 y2 y3 y4
   unfold spec_RootPort.j1
   repeat' first
   | (with_reducible exact ih0 _ _ _ _)
   | (with_reducible exact ih1 _ _ _ _ _)
   | (with_reducible exact ih2 _ _ _ _ _ _ _ _ _ _ _ _ _ _ _ _)
   | (with_reducible exact spec_BridgeOk.mono _ _ _)
   | (with_reducible exact LeO.refl _)
   | (with_reducible exact LeO.none _)
   | (with_reducible refine LeO.ite ?_ ?_)
   | (with_reducible refine LeO.bind ?_ (fun _ => ?_))
   | exact ih0 _ _ _ _
   | exact ih1 _ _ _ _ _
   | exact ih2 _ _ _ _ _ _ _ _ _ _ _ _ _ _ _ _
   | exact spec_BridgeOk.mono _ _ _
   | exact LeO.none _
   | refine LeO.ite ?_ ?_
   | refine LeO.bind ?_ (fun _ => ?_)
  ·intro y0 y1 y2 y3 y4 y5 y6 y7 y8 y9 y10 y11 y12 y13 y14 y15
   unfold spec_RootPort.j2
   repeat' first
   | (with_reducible exact ih0 _ _ _ _)
   | (with_reducible exact ih1 _ _ _ _ _)
   | (with_reducible exact ih2 _ _ _ _ _ _ _ _ _ _ _ _ _ _ _ _)
   | (with_reducible exact spec_BridgeOk.mono _ _ _)
   | (with_reducible exact LeO.refl _)
   | (with_reducible exact LeO.none _)
   | (with_reducible refine LeO.ite ?_ ?_)
   | (with_reducible refine LeO.bind ?_ (fun _ => ?_))
   | exact ih0 _ _ _ _
   | exact ih1 _ _ _ _ _
   | exact ih2 _ _ _ _ _ _ _ _ _ _ _ _ _ _ _ _
   | exact spec_BridgeOk.mono _ _ _
   | exact LeO.none _
   | refine LeO.ite ?_ ?_
   | refine LeO.bind ?_ (fun _ => ?_)
theorem spec_RootPort.mono : ∀ a0 a1 k, LeO (spec_RootPort.f k a0 a1) (spec_RootPort.f (k + 1) a0 a1) := by
 intro a0 a1 k
 obtain ⟨ih0, ih1, ih2⟩ := spec_RootPort.mono_l k
 unfold spec_RootPort.f
 repeat' first
   | (with_reducible exact ih0 _ _ _ _)
   | (with_reducible exact ih1 _ _ _ _ _)
   | (with_reducible exact ih2 _ _ _ _ _ _ _ _ _ _ _ _ _ _ _ _)
   | (with_reducible exact spec_BridgeOk.mono _ _ _)
   | (with_reducible exact LeO.refl _)
   | (with_reducible exact LeO.none _)
   | (with_reducible refine LeO.ite ?_ ?_)
   | (with_reducible refine LeO.bind ?_ (fun _ => ?_))
   | exact ih0 _ _ _ _
   | exact ih1 _ _ _ _ _
   | exact ih2 _ _ _ _ _ _ _ _ _ _ _ _ _ _ _ _
   | exact spec_BridgeOk.mono _ _ _
   | exact LeO.none _
   | refine LeO.ite ?_ ?_
   | refine LeO.bind ?_ (fun _ => ?_)
def spec_RootPort.T7 : Bool × List (List Nat × List Nat) := (true, [([], []), ([0], [0]), ([1], [1]), ([2], [2]), ([3, 2], [2, 3]), ([2], [2]), ([5, 2], [2, 5]), ([2], [2]), ([6, 7, 2], [2, 6, 7]), ([8, 2], [2, 8]), ([9, 2], [2, 9]), ([4, 10, 2, 2], [2, 4, 10]), ([2, 11], [2, 11])])
def spec_RootPort.B7 : List Nat := [0, 1, 3, 7, 15, 7, 39, 7, 231, 487, 999, 2047, 4095]
theorem spec_RootPort.tab7 : rtab .any (opsOf Try.f45 7) = spec_RootPort.T7 := by kernel_rfl
theorem spec_RootPort.bits7 : waitsOk spec_RootPort.T7.2 spec_RootPort.B7 = true := by kernel_rfl
set_option maxHeartbeats 60000000 in
set_option maxRecDepth 100000 in
theorem spec_RootPort.calls (k : Nat) (a0_0 : Int) (A0_1 : Option Addr) (c0_1 : Nat) (l0_1 : List (S109)) (r1 : Int) (r2 : Bool) (w : World) (hr0_1 : Kd.C k109 w A0_1 l0_1.length l0_1) (hc0_1 : l0_1.length ≤ c0_1) (h : spec_RootPort.f k a0_0 l0_1 = some (r1, r2)) :
  Calls Try.prog 45 #[.agg #[.int .i64 a0_0, .slice A0_1 l0_1.length c0_1]] w fun e w' => e = .returned (.tuple #[.int .i64 r1, .bool r2]) ∧ Below w.heap.size w w' := by
 have hu66 := Try.underlying66
 have hu109 := Try.underlying109
 have hu77 := Try.underlying77
 have HR0_1 := aM hr0_1
 have HC0_1 := aM hc0_1
 clear hr0_1 hc0_1
 have HB := aM (Below.refl w.heap.size w)
 have H : (spec_RootPort.l0 k (-1) 0 a0_0 l0_1) = some (r1, r2) := h
 clear h
 have H' := aM H
 clear H
 go_enter Try.func45, Try.ntmps45
 go_wp2_with (first | ((with_reducible refine gate_dst (N := 1) rfl ?_); refine box_event ?hg (N := 1) ?hd (cs := #[.int .i64 a0_0, .slice A0_1 l0_1.length c0_1]) (t := 66) ?hr ?_; (case hd => rfl); (case hg => rfl); (case hr => first | (go_simp; done) | (go_simp; rfl)); intro gb170 hg w2 hbox hb; have n0_ := aM (below_step (by repeat (first | (with_reducible first | exact HB.out | apply below_alloc | apply pw_below_drewN | apply below_drew1) | exact HB.out)) hb); have n1_ := aM (hbox); have n2_ := aM ((by rw [hg]; exact (below_size (by repeat (first | (with_reducible first | exact HB.out | apply below_alloc | apply pw_below_drewN | apply below_drew1) | exact HB.out))) : w.heap.size ≤ gb170)); have n3_ := aM ((by rw [hg]; exact (below_size (by repeat (first | (with_reducible first | exact HB.out | apply below_alloc | apply pw_below_drewN | apply below_drew1) | exact HB.out))) : w.heap.size ≤ gb170)); clear HB; have HB := n0_; have BK170 := n1_; have GW170 := n2_; have GE170 := n3_; clear n0_ n1_ n2_ n3_; clear hb hbox hg))
 go_loopg [4, 5] k (fun kq v4 v5 w' => ∃ (x4_1 : Int) (x5_1 : Int), v4 = .int .i64 x4_1 ∧ v5 = .int .i64 x5_1 ∧ Aside0 (spec_RootPort.l0 kq x4_1 x5_1 a0_0 l0_1 = some (r1, r2)) ∧ Aside0 (kq ≤ k) ∧ Aside0 (w'.heap[gb170]? = some (.cells #[.int .i64 a0_0, (.slice A0_1 l0_1.length c0_1)] 66 (0, 0))) ∧ Aside0 (Below w.heap.size w w'))
 case atStart => exact ⟨((-1)), (0), (by first | rfl | (simp; done) | (simp [*]; done)), (by first | rfl | (simp; done) | (simp [*]; done)), H', ⟨Nat.le_refl _⟩, ⟨by (with_reducible repeat (first | refine blk_drewN ?_ _ | refine blk_drew ?_ | refine blk_alloc ?_ _)); exact BK170.out⟩, ⟨by repeat (first | (with_reducible first | exact HB.out | apply below_alloc | apply pw_below_drewN | apply below_drew1 | refine below_set ?_ GE170.out) | exact HB.out)⟩⟩
 case round =>
  clear H'
  try clear p2
  obtain ⟨x4_1, x5_1, rfl, rfl, HA, HK1, BK170, HB⟩ := hrel
  cases gk with
  | zero => exact absurd HA.out (by simp [spec_RootPort.l0])
  | succ k1 =>
   have H := HA.out
   clear HA
   simp only [spec_RootPort.l0] at H
   have HC3 := aM H
   clear H
   go_upto_region 3 with (fail)
   go_cut [15] (fun v15 wc => ∃ (kq : Nat) (x15_2 : Bool), v15 = .bool x15_2 ∧ Aside0 (spec_RootPort.j1 kq x4_1 x5_1 x15_2 a0_0 l0_1 = some (r1, r2)) ∧ Aside0 (kq ≤ k1) ∧ Aside0 (wc.heap[gb170]? = some (.cells #[.int .i64 a0_0, (.slice A0_1 l0_1.length c0_1)] 66 (0, 0))) ∧ Aside0 (Below w.heap.size w wc))
   case first =>
    have H := HC3.out
    clear HC3
    by_cases c4 : x5_1 < (l0_1.length : Int)
    case neg =>
     rw [if_neg c4] at H
     have c4b0 : decide (x5_1 < (l0_1.length : Int)) = false := decide_eq_false c4
     clear c4
     (first | rw [c4b0] | (simp only [i64_w, i32_w]; rw [c4b0]) | skip)
     have H' := aM H
     clear H
     have hcz8_0 : wr.cell? ⟨gb170, 0, none⟩ = some (.int .i64 a0_0) := (blk_cell BK170.out 0).trans rfl
     have hcz8_1 : wr.cell? ⟨gb170, 1, none⟩ = some (.slice A0_1 l0_1.length c0_1) := (blk_cell BK170.out 1).trans rfl
     have hfz8_0 := blk_frozen BK170.out 0
     have hfz8_1 := blk_frozen BK170.out 1
     go_wp2
     go_meet
     case rel => (try rw [← Nbq17.out]); exact ⟨_, (false), (by first | rfl | (simp; done) | (simp [*]; done)), H', ⟨by have := HK1.out; first | omega | exact Nat.le_refl _⟩, ⟨by (with_reducible repeat (first | refine blk_drewN ?_ _ | refine blk_drew ?_ | refine blk_alloc ?_ _)); exact BK170.out⟩, ⟨by repeat (first | (with_reducible first | exact HB.out | apply below_alloc | apply pw_below_drewN | apply below_drew1 | refine below_set ?_ GE170.out) | exact HB.out)⟩⟩
    rw [if_pos c4] at H
    have c4b0 : decide (x5_1 < (l0_1.length : Int)) = true := decide_eq_true c4
    clear c4
    (first | rw [c4b0] | (simp only [i64_w, i32_w]; rw [c4b0]) | skip)
    replace H := Option.bind_eq_some_iff.mp H
    obtain ⟨t171, A50, H⟩ := H
    replace H : (spec_RootPort.j1 k1 x4_1 x5_1 t171 a0_0 l0_1) = some (r1, r2) := H
    have A5 := aM A50
    clear A50
    have H' := aM H
    clear H
    have hcz6_0 : wr.cell? ⟨gb170, 0, none⟩ = some (.int .i64 a0_0) := (blk_cell BK170.out 0).trans rfl
    have hcz6_1 : wr.cell? ⟨gb170, 1, none⟩ = some (.slice A0_1 l0_1.length c0_1) := (blk_cell BK170.out 1).trans rfl
    have hfz6_0 := blk_frozen BK170.out 0
    have hfz6_1 := blk_frozen BK170.out 1
    go_wp2_with (first | (go_at_call 92; (with_reducible refine (spec_BridgeOk.calls k1 a0_0 _ _ l0_1 t171 _ ?side1 ?side2 A5.out).mono ?_); (case side1 => repeat (first | exact (Kd.C_below HR0_1.out HB.out) | (with_reducible refine Kd.C_alloc ?_ _) | (with_reducible refine Kd.C_drewN ?_ _) | (with_reducible refine Kd.C_drew ?_))); (case side2 => exact HC0_1.out); rintro e w7 ⟨rfl, hb⟩; have n0_ := aM (blk_below (g := gb170) (o := .cells #[.int .i64 a0_0, .slice A0_1 l0_1.length c0_1] 66 (0, 0)) (by (with_reducible repeat (first | refine blk_drewN ?_ _ | refine blk_drew ?_ | refine blk_alloc ?_ _)); exact BK170.out) hb); have n1_ := aM (below_step (by repeat (first | (with_reducible first | exact HB.out | apply below_alloc | apply pw_below_drewN | apply below_drew1 | refine below_set ?_ GE170.out) | exact HB.out)) hb); clear BK170; clear HB; have BK170 := n0_; have HB := n1_; clear n0_ n1_; (try clear hb); (try clear hb2); (try clear hk); (try clear hi)))
    go_meet
    case rel => (try rw [← Nbq17.out]); exact ⟨_, (t171), (by first | rfl | (simp; done) | (simp [*]; done)), H', ⟨by have := HK1.out; first | omega | exact Nat.le_refl _⟩, ⟨by (with_reducible repeat (first | refine blk_drewN ?_ _ | refine blk_drew ?_ | refine blk_alloc ?_ _)); exact BK170.out⟩, ⟨by repeat (first | (with_reducible first | exact HB.out | apply below_alloc | apply pw_below_drewN | apply below_drew1 | refine below_set ?_ GE170.out) | exact HB.out)⟩⟩
   case rest =>
    clear HC3
    try clear p2
    try clear c4
    try clear c4b0
    try clear hcz6_0
    try clear hcz6_1
    try clear hcz8_0
    try clear hcz8_1
    try clear hfz6_0
    try clear hfz6_1
    try clear hfz8_0
    try clear hfz8_1
    try clear p2
    obtain ⟨kq, x15_2, rfl, HA, HJ2, BK170, HB⟩ := hcut
    cases kq with
    | zero => exact absurd HA.out (by simp [spec_RootPort.j1])
    | succ kj2 =>
     have H := HA.out
     clear HA
     simp only [spec_RootPort.j1] at H
     by_cases c9 : x15_2 = true
     case neg =>
      replace c9 := Bool.eq_false_iff.mpr c9
      subst c9
      have H1 : (some (x4_1, decide (x4_1 ≥ 0))) = some (r1, r2) := by rw [if_neg (show ¬ (false = true) by decide)] at H; exact H
      clear H
      have H := H1
      clear H1
      simp only [Option.some.injEq, Prod.mk.injEq] at H
      obtain ⟨rfl, rfl⟩ := H
      go_wp2
      go_ret2
      exact ⟨by first | rfl | (simp [errW_none, errW_some] <;> rfl) | (simp [*, errW_none, errW_some] <;> rfl), by repeat (first | (with_reducible first | exact HB.out | apply below_alloc | apply pw_below_drewN | apply below_drew1 | refine below_set ?_ GE170.out) | exact HB.out)⟩
     subst c9
     have H1 : (if 0 ≤ x5_1 then (if x5_1 < (l0_1.length : Int) then (if ((rd_T109 l0_1 x5_1).f1 = true) then (if ((rd_T109 l0_1 x5_1).f2.f2) = a0_0 then (spec_RootPort.j2 kj2 x4_1 x5_1 true a0_0 l0_1 ((rd_T109 l0_1 x5_1).f0) ((rd_T109 l0_1 x5_1).f1) ((rd_T109 l0_1 x5_1).f2.f0) ((rd_T109 l0_1 x5_1).f2.f1) ((rd_T109 l0_1 x5_1).f2.f2) ((rd_T109 l0_1 x5_1).f2.f3) ((rd_T109 l0_1 x5_1).f3) ((rd_T109 l0_1 x5_1).f4) ((rd_T109 l0_1 x5_1).f5) ((rd_T109 l0_1 x5_1).f6) ((rd_T109 l0_1 x5_1).f7)) else (if ((rd_T109 l0_1 x5_1).f2.f0) ≥ a0_0 then (spec_RootPort.j2 kj2 x4_1 x5_1 true a0_0 l0_1 ((rd_T109 l0_1 x5_1).f0) ((rd_T109 l0_1 x5_1).f1) ((rd_T109 l0_1 x5_1).f2.f0) ((rd_T109 l0_1 x5_1).f2.f1) ((rd_T109 l0_1 x5_1).f2.f2) ((rd_T109 l0_1 x5_1).f2.f3) ((rd_T109 l0_1 x5_1).f3) ((rd_T109 l0_1 x5_1).f4) ((rd_T109 l0_1 x5_1).f5) ((rd_T109 l0_1 x5_1).f6) ((rd_T109 l0_1 x5_1).f7)) else (if ((rd_T109 l0_1 x5_1).f2.f1) ≥ 20 then (spec_RootPort.j2 kj2 x4_1 x5_1 true a0_0 l0_1 ((rd_T109 l0_1 x5_1).f0) ((rd_T109 l0_1 x5_1).f1) ((rd_T109 l0_1 x5_1).f2.f0) ((rd_T109 l0_1 x5_1).f2.f1) ((rd_T109 l0_1 x5_1).f2.f2) ((rd_T109 l0_1 x5_1).f2.f3) ((rd_T109 l0_1 x5_1).f3) ((rd_T109 l0_1 x5_1).f4) ((rd_T109 l0_1 x5_1).f5) ((rd_T109 l0_1 x5_1).f6) ((rd_T109 l0_1 x5_1).f7)) else (spec_RootPort.j2 kj2 x4_1 x5_1 (decide (((rd_T109 l0_1 x5_1).f3) ≥ 8)) a0_0 l0_1 ((rd_T109 l0_1 x5_1).f0) ((rd_T109 l0_1 x5_1).f1) ((rd_T109 l0_1 x5_1).f2.f0) ((rd_T109 l0_1 x5_1).f2.f1) ((rd_T109 l0_1 x5_1).f2.f2) ((rd_T109 l0_1 x5_1).f2.f3) ((rd_T109 l0_1 x5_1).f3) ((rd_T109 l0_1 x5_1).f4) ((rd_T109 l0_1 x5_1).f5) ((rd_T109 l0_1 x5_1).f6) ((rd_T109 l0_1 x5_1).f7))))) else (spec_RootPort.j2 kj2 x4_1 x5_1 true a0_0 l0_1 ((rd_T109 l0_1 x5_1).f0) ((rd_T109 l0_1 x5_1).f1) ((rd_T109 l0_1 x5_1).f2.f0) ((rd_T109 l0_1 x5_1).f2.f1) ((rd_T109 l0_1 x5_1).f2.f2) ((rd_T109 l0_1 x5_1).f2.f3) ((rd_T109 l0_1 x5_1).f3) ((rd_T109 l0_1 x5_1).f4) ((rd_T109 l0_1 x5_1).f5) ((rd_T109 l0_1 x5_1).f6) ((rd_T109 l0_1 x5_1).f7))) else (none)) else (none)) = some (r1, r2) := by rw [if_pos rfl] at H; exact H
     clear H
     have H := H1
     clear H1
     by_cases c10 : 0 ≤ x5_1
     case neg =>
      rw [if_neg c10] at H
      exact absurd H (by simp)
     rw [if_pos c10] at H
     have c10b0 : decide (0 ≤ x5_1) = true := decide_eq_true c10
     clear c10
     by_cases c11 : x5_1 < (l0_1.length : Int)
     case neg =>
      rw [if_neg c11] at H
      exact absurd H (by simp)
     rw [if_pos c11] at H
     have c11b0 : decide (x5_1 < (l0_1.length : Int)) = true := decide_eq_true c11
     clear c11
     have HC12 := aM H
     clear H
     have hcz13_0 : wc.cell? ⟨gb170, 0, none⟩ = some (.int .i64 a0_0) := (blk_cell BK170.out 0).trans rfl
     have hcz13_1 : wc.cell? ⟨gb170, 1, none⟩ = some (.slice A0_1 l0_1.length c0_1) := (blk_cell BK170.out 1).trans rfl
     have hfz13_0 := blk_frozen BK170.out 0
     have hfz13_1 := blk_frozen BK170.out 1
     have p172 : 0 ≤ (x5_1 : Int) := of_decide_eq_true (by first | (with_reducible assumption) | assumption)
     have q172 : x5_1 < (l0_1.length : Int) := of_decide_eq_true (by first | (with_reducible assumption) | assumption)
     obtain ⟨ad172, e172, hx172_0, hx172_1, hx172_2, hx172_3, hx172_4, hx172_5, hx172_6, hx172_7, hx172_8, hx172_9, hx172_10⟩ := at_T109 HR0_1.out x5_1 p172 q172
     cases e172
     replace hx172_0 := (HB.out.cell (World.block_lt_of_cell? w _ hx172_0)).trans hx172_0
     replace hx172_1 := (HB.out.cell (World.block_lt_of_cell? w _ hx172_1)).trans hx172_1
     replace hx172_2 := (HB.out.cell (World.block_lt_of_cell? w _ hx172_2)).trans hx172_2
     replace hx172_3 := (HB.out.cell (World.block_lt_of_cell? w _ hx172_3)).trans hx172_3
     replace hx172_4 := (HB.out.cell (World.block_lt_of_cell? w _ hx172_4)).trans hx172_4
     replace hx172_5 := (HB.out.cell (World.block_lt_of_cell? w _ hx172_5)).trans hx172_5
     replace hx172_6 := (HB.out.cell (World.block_lt_of_cell? w _ hx172_6)).trans hx172_6
     replace hx172_7 := (HB.out.cell (World.block_lt_of_cell? w _ hx172_7)).trans hx172_7
     replace hx172_8 := (HB.out.cell (World.block_lt_of_cell? w _ hx172_8)).trans hx172_8
     replace hx172_9 := (HB.out.cell (World.block_lt_of_cell? w _ hx172_9)).trans hx172_9
     replace hx172_10 := (HB.out.cell (World.block_lt_of_cell? w _ hx172_10)).trans hx172_10
     replace p172 := eq_true p172
     replace q172 := eq_true q172
     go_upto_region 6 with (first | ((with_reducible refine gate_dst (N := 6) rfl ?_); refine box_event ?hg (N := 6) ?hd (cs := #[.bool false, .bool false, .int .i64 0, .int .i64 0, .int .i64 0, .int .i64 0, .int .i64 0, .int .i64 0, .int .i64 0, .int .i64 0, .bool false]) (t := 109) ?hr ?_; (case hd => rfl); (case hg => rfl); (case hr => first | (go_simp; done) | (go_simp; rfl)); intro gb173 hg w14 hbox hb; have n0_ := aM (blk_below (g := gb170) (o := .cells #[.int .i64 a0_0, .slice (some ad172) l0_1.length c0_1] 66 (0, 0)) (by (with_reducible repeat (first | refine blk_drewN ?_ _ | refine blk_drew ?_ | refine blk_alloc ?_ _)); exact BK170.out) hb); have n1_ := aM (below_step (by repeat (first | (with_reducible first | exact HB.out | apply below_alloc | apply pw_below_drewN | apply below_drew1 | refine below_set ?_ GE170.out) | exact HB.out)) hb); have n2_ := aM (hbox); have n3_ := aM ((by rw [hg]; exact (below_size (by repeat (first | (with_reducible first | exact HB.out | apply below_alloc | apply pw_below_drewN | apply below_drew1 | refine below_set ?_ GE170.out) | exact HB.out))) : w.heap.size ≤ gb173)); have n4_ := aM ((by rw [hg]; exact (below_size (by repeat (first | (with_reducible first | exact HB.out | apply below_alloc | apply pw_below_drewN | apply below_drew1 | refine below_set ?_ GE170.out) | exact HB.out))) : w.heap.size ≤ gb173)); have n5_ := aM ((by rw [hg]; exact Nat.ne_of_lt (blk_lt (g := gb170) (o := .cells #[.int .i64 a0_0, .slice (some ad172) l0_1.length c0_1] 66 (0, 0)) (by (with_reducible repeat (first | refine blk_drewN ?_ _ | refine blk_drew ?_ | refine blk_alloc ?_ _)); exact BK170.out)) : gb170 ≠ gb173)); have n6_ := aM ((by rw [hg]; exact Nat.ne_of_gt (blk_lt (g := gb170) (o := .cells #[.int .i64 a0_0, .slice (some ad172) l0_1.length c0_1] 66 (0, 0)) (by (with_reducible repeat (first | refine blk_drewN ?_ _ | refine blk_drew ?_ | refine blk_alloc ?_ _)); exact BK170.out)) : gb173 ≠ gb170)); clear BK170; clear HB; have BK170 := n0_; have HB := n1_; have BK173 := n2_; have GW173 := n3_; have GE173 := n4_; have NB170_173 := n5_; have NB173_170 := n6_; clear n0_ n1_ n2_ n3_ n4_ n5_ n6_; clear hb hbox hg; have hnb15 := NB173_170.out; have hnc15 := NB170_173.out; have hcz16_0 : w14.cell? ⟨gb173, 0, none⟩ = some (.bool false) := (blk_cell BK173.out 0).trans rfl; have hcz16_1 : w14.cell? ⟨gb173, 1, none⟩ = some (.bool false) := (blk_cell BK173.out 1).trans rfl; have hcz16_2 : w14.cell? ⟨gb173, 2, none⟩ = some (.int .i64 0) := (blk_cell BK173.out 2).trans rfl; have hcz16_3 : w14.cell? ⟨gb173, 3, none⟩ = some (.int .i64 0) := (blk_cell BK173.out 3).trans rfl; have hcz16_4 : w14.cell? ⟨gb173, 4, none⟩ = some (.int .i64 0) := (blk_cell BK173.out 4).trans rfl; have hcz16_5 : w14.cell? ⟨gb173, 5, none⟩ = some (.int .i64 0) := (blk_cell BK173.out 5).trans rfl; have hcz16_6 : w14.cell? ⟨gb173, 6, none⟩ = some (.int .i64 0) := (blk_cell BK173.out 6).trans rfl; have hcz16_7 : w14.cell? ⟨gb173, 7, none⟩ = some (.int .i64 0) := (blk_cell BK173.out 7).trans rfl; have hcz16_8 : w14.cell? ⟨gb173, 8, none⟩ = some (.int .i64 0) := (blk_cell BK173.out 8).trans rfl; have hcz16_9 : w14.cell? ⟨gb173, 9, none⟩ = some (.int .i64 0) := (blk_cell BK173.out 9).trans rfl; have hcz16_10 : w14.cell? ⟨gb173, 10, none⟩ = some (.bool false) := (blk_cell BK173.out 10).trans rfl; have hfz16_0 := blk_frozen BK173.out 0; have hfz16_1 := blk_frozen BK173.out 1; have hfz16_2 := blk_frozen BK173.out 2; have hfz16_3 := blk_frozen BK173.out 3; have hfz16_4 := blk_frozen BK173.out 4; have hfz16_5 := blk_frozen BK173.out 5; have hfz16_6 := blk_frozen BK173.out 6; have hfz16_7 := blk_frozen BK173.out 7; have hfz16_8 := blk_frozen BK173.out 8; have hfz16_9 := blk_frozen BK173.out 9; have hfz16_10 := blk_frozen BK173.out 10))
     (try simp only [Act.put, sA, sZ, sS])
     go_cut [52] (fun v52 wc => ∃ (kq : Nat) (x52_11 : Bool), v52 = .bool x52_11 ∧ Aside0 (spec_RootPort.j2 kq x4_1 x5_1 x52_11 a0_0 l0_1 ((rd_T109 l0_1 x5_1).f0) ((rd_T109 l0_1 x5_1).f1) ((rd_T109 l0_1 x5_1).f2.f0) ((rd_T109 l0_1 x5_1).f2.f1) ((rd_T109 l0_1 x5_1).f2.f2) ((rd_T109 l0_1 x5_1).f2.f3) ((rd_T109 l0_1 x5_1).f3) ((rd_T109 l0_1 x5_1).f4) ((rd_T109 l0_1 x5_1).f5) ((rd_T109 l0_1 x5_1).f6) ((rd_T109 l0_1 x5_1).f7) = some (r1, r2)) ∧ Aside0 (kq ≤ kj2) ∧ Aside0 (wc.heap[gb170]? = some (.cells #[.int .i64 a0_0, (.slice (some ad172) l0_1.length c0_1)] 66 (0, 0))) ∧ Aside0 (wc.heap[gb173]? = some (.cells #[.bool ((rd_T109 l0_1 x5_1).f0), .bool ((rd_T109 l0_1 x5_1).f1), .int .i64 ((rd_T109 l0_1 x5_1).f2.f0), .int .i64 ((rd_T109 l0_1 x5_1).f2.f1), .int .i64 ((rd_T109 l0_1 x5_1).f2.f2), .int .i64 ((rd_T109 l0_1 x5_1).f2.f3), .int .i64 ((rd_T109 l0_1 x5_1).f3), .int .i64 ((rd_T109 l0_1 x5_1).f4), .int .i64 ((rd_T109 l0_1 x5_1).f5), .int .i64 ((rd_T109 l0_1 x5_1).f6), .bool ((rd_T109 l0_1 x5_1).f7)] 109 (0, 0))) ∧ Aside0 (Below w.heap.size w wc))
     case first =>
      have H := HC12.out
      clear HC12
      obtain ⟨bq17, hbq17⟩ : ∃ b_ : Bool, b_ = ((rd_T109 l0_1 x5_1).f1) := ⟨_, rfl⟩
      replace H : (if (bq17 = true) then (if ((rd_T109 l0_1 x5_1).f2.f2) = a0_0 then (spec_RootPort.j2 kj2 x4_1 x5_1 true a0_0 l0_1 ((rd_T109 l0_1 x5_1).f0) bq17 ((rd_T109 l0_1 x5_1).f2.f0) ((rd_T109 l0_1 x5_1).f2.f1) ((rd_T109 l0_1 x5_1).f2.f2) ((rd_T109 l0_1 x5_1).f2.f3) ((rd_T109 l0_1 x5_1).f3) ((rd_T109 l0_1 x5_1).f4) ((rd_T109 l0_1 x5_1).f5) ((rd_T109 l0_1 x5_1).f6) ((rd_T109 l0_1 x5_1).f7)) else (if ((rd_T109 l0_1 x5_1).f2.f0) ≥ a0_0 then (spec_RootPort.j2 kj2 x4_1 x5_1 true a0_0 l0_1 ((rd_T109 l0_1 x5_1).f0) bq17 ((rd_T109 l0_1 x5_1).f2.f0) ((rd_T109 l0_1 x5_1).f2.f1) ((rd_T109 l0_1 x5_1).f2.f2) ((rd_T109 l0_1 x5_1).f2.f3) ((rd_T109 l0_1 x5_1).f3) ((rd_T109 l0_1 x5_1).f4) ((rd_T109 l0_1 x5_1).f5) ((rd_T109 l0_1 x5_1).f6) ((rd_T109 l0_1 x5_1).f7)) else (if ((rd_T109 l0_1 x5_1).f2.f1) ≥ 20 then (spec_RootPort.j2 kj2 x4_1 x5_1 true a0_0 l0_1 ((rd_T109 l0_1 x5_1).f0) bq17 ((rd_T109 l0_1 x5_1).f2.f0) ((rd_T109 l0_1 x5_1).f2.f1) ((rd_T109 l0_1 x5_1).f2.f2) ((rd_T109 l0_1 x5_1).f2.f3) ((rd_T109 l0_1 x5_1).f3) ((rd_T109 l0_1 x5_1).f4) ((rd_T109 l0_1 x5_1).f5) ((rd_T109 l0_1 x5_1).f6) ((rd_T109 l0_1 x5_1).f7)) else (spec_RootPort.j2 kj2 x4_1 x5_1 (decide (((rd_T109 l0_1 x5_1).f3) ≥ 8)) a0_0 l0_1 ((rd_T109 l0_1 x5_1).f0) bq17 ((rd_T109 l0_1 x5_1).f2.f0) ((rd_T109 l0_1 x5_1).f2.f1) ((rd_T109 l0_1 x5_1).f2.f2) ((rd_T109 l0_1 x5_1).f2.f3) ((rd_T109 l0_1 x5_1).f3) ((rd_T109 l0_1 x5_1).f4) ((rd_T109 l0_1 x5_1).f5) ((rd_T109 l0_1 x5_1).f6) ((rd_T109 l0_1 x5_1).f7))))) else (spec_RootPort.j2 kj2 x4_1 x5_1 true a0_0 l0_1 ((rd_T109 l0_1 x5_1).f0) bq17 ((rd_T109 l0_1 x5_1).f2.f0) ((rd_T109 l0_1 x5_1).f2.f1) ((rd_T109 l0_1 x5_1).f2.f2) ((rd_T109 l0_1 x5_1).f2.f3) ((rd_T109 l0_1 x5_1).f3) ((rd_T109 l0_1 x5_1).f4) ((rd_T109 l0_1 x5_1).f5) ((rd_T109 l0_1 x5_1).f6) ((rd_T109 l0_1 x5_1).f7))) = some (r1, r2) := by rw [← hbq17] at H; exact H
      have Nbq17 := aM hbq17
      clear hbq17
      (try rw [← Nbq17.out])
      by_cases c18 : (bq17 = true)
      case neg =>
       replace c18 := Bool.eq_false_iff.mpr c18
       subst c18
       have H1 : (spec_RootPort.j2 kj2 x4_1 x5_1 true a0_0 l0_1 ((rd_T109 l0_1 x5_1).f0) false ((rd_T109 l0_1 x5_1).f2.f0) ((rd_T109 l0_1 x5_1).f2.f1) ((rd_T109 l0_1 x5_1).f2.f2) ((rd_T109 l0_1 x5_1).f2.f3) ((rd_T109 l0_1 x5_1).f3) ((rd_T109 l0_1 x5_1).f4) ((rd_T109 l0_1 x5_1).f5) ((rd_T109 l0_1 x5_1).f6) ((rd_T109 l0_1 x5_1).f7)) = some (r1, r2) := by rw [if_neg (show ¬ (false = true) by decide)] at H; exact H
       clear H
       have H := H1
       clear H1
       have H' := aM H
       clear H
       have hnb34 := NB173_170.out
       have hnc34 := NB170_173.out
       have hcz35_0 : w14.cell? ⟨gb173, 0, none⟩ = some (.bool false) := (blk_cell BK173.out 0).trans rfl
       have hcz35_1 : w14.cell? ⟨gb173, 1, none⟩ = some (.bool false) := (blk_cell BK173.out 1).trans rfl
       have hcz35_2 : w14.cell? ⟨gb173, 2, none⟩ = some (.int .i64 0) := (blk_cell BK173.out 2).trans rfl
       have hcz35_3 : w14.cell? ⟨gb173, 3, none⟩ = some (.int .i64 0) := (blk_cell BK173.out 3).trans rfl
       have hcz35_4 : w14.cell? ⟨gb173, 4, none⟩ = some (.int .i64 0) := (blk_cell BK173.out 4).trans rfl
       have hcz35_5 : w14.cell? ⟨gb173, 5, none⟩ = some (.int .i64 0) := (blk_cell BK173.out 5).trans rfl
       have hcz35_6 : w14.cell? ⟨gb173, 6, none⟩ = some (.int .i64 0) := (blk_cell BK173.out 6).trans rfl
       have hcz35_7 : w14.cell? ⟨gb173, 7, none⟩ = some (.int .i64 0) := (blk_cell BK173.out 7).trans rfl
       have hcz35_8 : w14.cell? ⟨gb173, 8, none⟩ = some (.int .i64 0) := (blk_cell BK173.out 8).trans rfl
       have hcz35_9 : w14.cell? ⟨gb173, 9, none⟩ = some (.int .i64 0) := (blk_cell BK173.out 9).trans rfl
       have hcz35_10 : w14.cell? ⟨gb173, 10, none⟩ = some (.bool false) := (blk_cell BK173.out 10).trans rfl
       have hfz35_0 := blk_frozen BK173.out 0
       have hfz35_1 := blk_frozen BK173.out 1
       have hfz35_2 := blk_frozen BK173.out 2
       have hfz35_3 := blk_frozen BK173.out 3
       have hfz35_4 := blk_frozen BK173.out 4
       have hfz35_5 := blk_frozen BK173.out 5
       have hfz35_6 := blk_frozen BK173.out 6
       have hfz35_7 := blk_frozen BK173.out 7
       have hfz35_8 := blk_frozen BK173.out 8
       have hfz35_9 := blk_frozen BK173.out 9
       have hfz35_10 := blk_frozen BK173.out 10
       go_wp2
       go_meet
       case rel => (try rw [← Nbq17.out]); exact ⟨_, (true), (by first | rfl | (simp; done) | (simp [*]; done)), H', ⟨by have := HK1.out; have := HJ2.out; first | omega | exact Nat.le_refl _⟩, ⟨by (with_reducible repeat (first | refine blk_drewN ?_ _ | refine blk_drew ?_ | refine blk_alloc ?_ _)); refine blk_far ?_ NB170_173.out _; (with_reducible repeat (first | refine blk_drewN ?_ _ | refine blk_drew ?_ | refine blk_alloc ?_ _)); refine blk_far ?_ NB170_173.out _; (with_reducible repeat (first | refine blk_drewN ?_ _ | refine blk_drew ?_ | refine blk_alloc ?_ _)); refine blk_far ?_ NB170_173.out _; (with_reducible repeat (first | refine blk_drewN ?_ _ | refine blk_drew ?_ | refine blk_alloc ?_ _)); refine blk_far ?_ NB170_173.out _; (with_reducible repeat (first | refine blk_drewN ?_ _ | refine blk_drew ?_ | refine blk_alloc ?_ _)); refine blk_far ?_ NB170_173.out _; (with_reducible repeat (first | refine blk_drewN ?_ _ | refine blk_drew ?_ | refine blk_alloc ?_ _)); refine blk_far ?_ NB170_173.out _; (with_reducible repeat (first | refine blk_drewN ?_ _ | refine blk_drew ?_ | refine blk_alloc ?_ _)); refine blk_far ?_ NB170_173.out _; (with_reducible repeat (first | refine blk_drewN ?_ _ | refine blk_drew ?_ | refine blk_alloc ?_ _)); refine blk_far ?_ NB170_173.out _; (with_reducible repeat (first | refine blk_drewN ?_ _ | refine blk_drew ?_ | refine blk_alloc ?_ _)); refine blk_far ?_ NB170_173.out _; (with_reducible repeat (first | refine blk_drewN ?_ _ | refine blk_drew ?_ | refine blk_alloc ?_ _)); refine blk_far ?_ NB170_173.out _; (with_reducible repeat (first | refine blk_drewN ?_ _ | refine blk_drew ?_ | refine blk_alloc ?_ _)); refine blk_far ?_ NB170_173.out _; (with_reducible repeat (first | refine blk_drewN ?_ _ | refine blk_drew ?_ | refine blk_alloc ?_ _)); exact BK170.out⟩, ⟨by (with_reducible repeat (first | refine blk_drewN ?_ _ | refine blk_drew ?_ | refine blk_alloc ?_ _)); refine blk_put (cs := #[.bool ((rd_T109 l0_1 x5_1).f0), .bool (false), .int .i64 ((rd_T109 l0_1 x5_1).f2.f0), .int .i64 ((rd_T109 l0_1 x5_1).f2.f1), .int .i64 ((rd_T109 l0_1 x5_1).f2.f2), .int .i64 ((rd_T109 l0_1 x5_1).f2.f3), .int .i64 ((rd_T109 l0_1 x5_1).f3), .int .i64 ((rd_T109 l0_1 x5_1).f4), .int .i64 ((rd_T109 l0_1 x5_1).f5), .int .i64 ((rd_T109 l0_1 x5_1).f6), .bool false]) ?_ 10 _ rfl; (with_reducible repeat (first | refine blk_drewN ?_ _ | refine blk_drew ?_ | refine blk_alloc ?_ _)); refine blk_put (cs := #[.bool ((rd_T109 l0_1 x5_1).f0), .bool (false), .int .i64 ((rd_T109 l0_1 x5_1).f2.f0), .int .i64 ((rd_T109 l0_1 x5_1).f2.f1), .int .i64 ((rd_T109 l0_1 x5_1).f2.f2), .int .i64 ((rd_T109 l0_1 x5_1).f2.f3), .int .i64 ((rd_T109 l0_1 x5_1).f3), .int .i64 ((rd_T109 l0_1 x5_1).f4), .int .i64 ((rd_T109 l0_1 x5_1).f5), .int .i64 0, .bool false]) ?_ 9 _ rfl; (with_reducible repeat (first | refine blk_drewN ?_ _ | refine blk_drew ?_ | refine blk_alloc ?_ _)); refine blk_put (cs := #[.bool ((rd_T109 l0_1 x5_1).f0), .bool (false), .int .i64 ((rd_T109 l0_1 x5_1).f2.f0), .int .i64 ((rd_T109 l0_1 x5_1).f2.f1), .int .i64 ((rd_T109 l0_1 x5_1).f2.f2), .int .i64 ((rd_T109 l0_1 x5_1).f2.f3), .int .i64 ((rd_T109 l0_1 x5_1).f3), .int .i64 ((rd_T109 l0_1 x5_1).f4), .int .i64 0, .int .i64 0, .bool false]) ?_ 8 _ rfl; (with_reducible repeat (first | refine blk_drewN ?_ _ | refine blk_drew ?_ | refine blk_alloc ?_ _)); refine blk_put (cs := #[.bool ((rd_T109 l0_1 x5_1).f0), .bool (false), .int .i64 ((rd_T109 l0_1 x5_1).f2.f0), .int .i64 ((rd_T109 l0_1 x5_1).f2.f1), .int .i64 ((rd_T109 l0_1 x5_1).f2.f2), .int .i64 ((rd_T109 l0_1 x5_1).f2.f3), .int .i64 ((rd_T109 l0_1 x5_1).f3), .int .i64 0, .int .i64 0, .int .i64 0, .bool false]) ?_ 7 _ rfl; (with_reducible repeat (first | refine blk_drewN ?_ _ | refine blk_drew ?_ | refine blk_alloc ?_ _)); refine blk_put (cs := #[.bool ((rd_T109 l0_1 x5_1).f0), .bool (false), .int .i64 ((rd_T109 l0_1 x5_1).f2.f0), .int .i64 ((rd_T109 l0_1 x5_1).f2.f1), .int .i64 ((rd_T109 l0_1 x5_1).f2.f2), .int .i64 ((rd_T109 l0_1 x5_1).f2.f3), .int .i64 0, .int .i64 0, .int .i64 0, .int .i64 0, .bool false]) ?_ 6 _ rfl; (with_reducible repeat (first | refine blk_drewN ?_ _ | refine blk_drew ?_ | refine blk_alloc ?_ _)); refine blk_put (cs := #[.bool ((rd_T109 l0_1 x5_1).f0), .bool (false), .int .i64 ((rd_T109 l0_1 x5_1).f2.f0), .int .i64 ((rd_T109 l0_1 x5_1).f2.f1), .int .i64 ((rd_T109 l0_1 x5_1).f2.f2), .int .i64 0, .int .i64 0, .int .i64 0, .int .i64 0, .int .i64 0, .bool false]) ?_ 5 _ rfl; (with_reducible repeat (first | refine blk_drewN ?_ _ | refine blk_drew ?_ | refine blk_alloc ?_ _)); refine blk_put (cs := #[.bool ((rd_T109 l0_1 x5_1).f0), .bool (false), .int .i64 ((rd_T109 l0_1 x5_1).f2.f0), .int .i64 ((rd_T109 l0_1 x5_1).f2.f1), .int .i64 0, .int .i64 0, .int .i64 0, .int .i64 0, .int .i64 0, .int .i64 0, .bool false]) ?_ 4 _ rfl; (with_reducible repeat (first | refine blk_drewN ?_ _ | refine blk_drew ?_ | refine blk_alloc ?_ _)); refine blk_put (cs := #[.bool ((rd_T109 l0_1 x5_1).f0), .bool (false), .int .i64 ((rd_T109 l0_1 x5_1).f2.f0), .int .i64 0, .int .i64 0, .int .i64 0, .int .i64 0, .int .i64 0, .int .i64 0, .int .i64 0, .bool false]) ?_ 3 _ rfl; (with_reducible repeat (first | refine blk_drewN ?_ _ | refine blk_drew ?_ | refine blk_alloc ?_ _)); refine blk_put (cs := #[.bool ((rd_T109 l0_1 x5_1).f0), .bool (false), .int .i64 0, .int .i64 0, .int .i64 0, .int .i64 0, .int .i64 0, .int .i64 0, .int .i64 0, .int .i64 0, .bool false]) ?_ 2 _ rfl; (with_reducible repeat (first | refine blk_drewN ?_ _ | refine blk_drew ?_ | refine blk_alloc ?_ _)); refine blk_put (cs := #[.bool ((rd_T109 l0_1 x5_1).f0), .bool false, .int .i64 0, .int .i64 0, .int .i64 0, .int .i64 0, .int .i64 0, .int .i64 0, .int .i64 0, .int .i64 0, .bool false]) ?_ 1 _ rfl; (with_reducible repeat (first | refine blk_drewN ?_ _ | refine blk_drew ?_ | refine blk_alloc ?_ _)); refine blk_put (cs := #[.bool false, .bool false, .int .i64 0, .int .i64 0, .int .i64 0, .int .i64 0, .int .i64 0, .int .i64 0, .int .i64 0, .int .i64 0, .bool false]) ?_ 0 _ rfl; (with_reducible repeat (first | refine blk_drewN ?_ _ | refine blk_drew ?_ | refine blk_alloc ?_ _)); exact BK173.out⟩, ⟨by repeat (first | (with_reducible first | exact HB.out | apply below_alloc | apply pw_below_drewN | apply below_drew1 | refine below_set ?_ GE170.out | refine below_set ?_ GE173.out) | exact HB.out)⟩⟩
      subst c18
      have H1 : (if ((rd_T109 l0_1 x5_1).f2.f2) = a0_0 then (spec_RootPort.j2 kj2 x4_1 x5_1 true a0_0 l0_1 ((rd_T109 l0_1 x5_1).f0) true ((rd_T109 l0_1 x5_1).f2.f0) ((rd_T109 l0_1 x5_1).f2.f1) ((rd_T109 l0_1 x5_1).f2.f2) ((rd_T109 l0_1 x5_1).f2.f3) ((rd_T109 l0_1 x5_1).f3) ((rd_T109 l0_1 x5_1).f4) ((rd_T109 l0_1 x5_1).f5) ((rd_T109 l0_1 x5_1).f6) ((rd_T109 l0_1 x5_1).f7)) else (if ((rd_T109 l0_1 x5_1).f2.f0) ≥ a0_0 then (spec_RootPort.j2 kj2 x4_1 x5_1 true a0_0 l0_1 ((rd_T109 l0_1 x5_1).f0) true ((rd_T109 l0_1 x5_1).f2.f0) ((rd_T109 l0_1 x5_1).f2.f1) ((rd_T109 l0_1 x5_1).f2.f2) ((rd_T109 l0_1 x5_1).f2.f3) ((rd_T109 l0_1 x5_1).f3) ((rd_T109 l0_1 x5_1).f4) ((rd_T109 l0_1 x5_1).f5) ((rd_T109 l0_1 x5_1).f6) ((rd_T109 l0_1 x5_1).f7)) else (if ((rd_T109 l0_1 x5_1).f2.f1) ≥ 20 then (spec_RootPort.j2 kj2 x4_1 x5_1 true a0_0 l0_1 ((rd_T109 l0_1 x5_1).f0) true ((rd_T109 l0_1 x5_1).f2.f0) ((rd_T109 l0_1 x5_1).f2.f1) ((rd_T109 l0_1 x5_1).f2.f2) ((rd_T109 l0_1 x5_1).f2.f3) ((rd_T109 l0_1 x5_1).f3) ((rd_T109 l0_1 x5_1).f4) ((rd_T109 l0_1 x5_1).f5) ((rd_T109 l0_1 x5_1).f6) ((rd_T109 l0_1 x5_1).f7)) else (spec_RootPort.j2 kj2 x4_1 x5_1 (decide (((rd_T109 l0_1 x5_1).f3) ≥ 8)) a0_0 l0_1 ((rd_T109 l0_1 x5_1).f0) true ((rd_T109 l0_1 x5_1).f2.f0) ((rd_T109 l0_1 x5_1).f2.f1) ((rd_T109 l0_1 x5_1).f2.f2) ((rd_T109 l0_1 x5_1).f2.f3) ((rd_T109 l0_1 x5_1).f3) ((rd_T109 l0_1 x5_1).f4) ((rd_T109 l0_1 x5_1).f5) ((rd_T109 l0_1 x5_1).f6) ((rd_T109 l0_1 x5_1).f7))))) = some (r1, r2) := by rw [if_pos rfl] at H; exact H
      clear H
      have H := H1
      clear H1
      by_cases c19 : ((rd_T109 l0_1 x5_1).f2.f2) = a0_0
      case pos =>
       rw [if_pos c19] at H
       have c19b0 : (((rd_T109 l0_1 x5_1).f2.f2) == a0_0) = true := beq_iff_eq.mpr c19
       have c19b1 : (((rd_T109 l0_1 x5_1).f2.f2) != a0_0) = false := bne_eq_false_iff_eq.mpr c19
       clear c19
       have H' := aM H
       clear H
       have hnb20 := NB173_170.out
       have hnc20 := NB170_173.out
       have hcz21_0 : w14.cell? ⟨gb173, 0, none⟩ = some (.bool false) := (blk_cell BK173.out 0).trans rfl
       have hcz21_1 : w14.cell? ⟨gb173, 1, none⟩ = some (.bool false) := (blk_cell BK173.out 1).trans rfl
       have hcz21_2 : w14.cell? ⟨gb173, 2, none⟩ = some (.int .i64 0) := (blk_cell BK173.out 2).trans rfl
       have hcz21_3 : w14.cell? ⟨gb173, 3, none⟩ = some (.int .i64 0) := (blk_cell BK173.out 3).trans rfl
       have hcz21_4 : w14.cell? ⟨gb173, 4, none⟩ = some (.int .i64 0) := (blk_cell BK173.out 4).trans rfl
       have hcz21_5 : w14.cell? ⟨gb173, 5, none⟩ = some (.int .i64 0) := (blk_cell BK173.out 5).trans rfl
       have hcz21_6 : w14.cell? ⟨gb173, 6, none⟩ = some (.int .i64 0) := (blk_cell BK173.out 6).trans rfl
       have hcz21_7 : w14.cell? ⟨gb173, 7, none⟩ = some (.int .i64 0) := (blk_cell BK173.out 7).trans rfl
       have hcz21_8 : w14.cell? ⟨gb173, 8, none⟩ = some (.int .i64 0) := (blk_cell BK173.out 8).trans rfl
       have hcz21_9 : w14.cell? ⟨gb173, 9, none⟩ = some (.int .i64 0) := (blk_cell BK173.out 9).trans rfl
       have hcz21_10 : w14.cell? ⟨gb173, 10, none⟩ = some (.bool false) := (blk_cell BK173.out 10).trans rfl
       have hfz21_0 := blk_frozen BK173.out 0
       have hfz21_1 := blk_frozen BK173.out 1
       have hfz21_2 := blk_frozen BK173.out 2
       have hfz21_3 := blk_frozen BK173.out 3
       have hfz21_4 := blk_frozen BK173.out 4
       have hfz21_5 := blk_frozen BK173.out 5
       have hfz21_6 := blk_frozen BK173.out 6
       have hfz21_7 := blk_frozen BK173.out 7
       have hfz21_8 := blk_frozen BK173.out 8
       have hfz21_9 := blk_frozen BK173.out 9
       have hfz21_10 := blk_frozen BK173.out 10
       have hcz22_0 : w14.cell? ⟨gb170, 0, none⟩ = some (.int .i64 a0_0) := (blk_cell BK170.out 0).trans rfl
       have hcz22_1 : w14.cell? ⟨gb170, 1, none⟩ = some (.slice (some ad172) l0_1.length c0_1) := (blk_cell BK170.out 1).trans rfl
       have hfz22_0 := blk_frozen BK170.out 0
       have hfz22_1 := blk_frozen BK170.out 1
       go_wp2
       go_meet
       case rel => (try rw [← Nbq17.out]); exact ⟨_, (true), (by first | rfl | (simp; done) | (simp [*]; done)), H', ⟨by have := HK1.out; have := HJ2.out; first | omega | exact Nat.le_refl _⟩, ⟨by (with_reducible repeat (first | refine blk_drewN ?_ _ | refine blk_drew ?_ | refine blk_alloc ?_ _)); refine blk_far ?_ NB170_173.out _; (with_reducible repeat (first | refine blk_drewN ?_ _ | refine blk_drew ?_ | refine blk_alloc ?_ _)); refine blk_far ?_ NB170_173.out _; (with_reducible repeat (first | refine blk_drewN ?_ _ | refine blk_drew ?_ | refine blk_alloc ?_ _)); refine blk_far ?_ NB170_173.out _; (with_reducible repeat (first | refine blk_drewN ?_ _ | refine blk_drew ?_ | refine blk_alloc ?_ _)); refine blk_far ?_ NB170_173.out _; (with_reducible repeat (first | refine blk_drewN ?_ _ | refine blk_drew ?_ | refine blk_alloc ?_ _)); refine blk_far ?_ NB170_173.out _; (with_reducible repeat (first | refine blk_drewN ?_ _ | refine blk_drew ?_ | refine blk_alloc ?_ _)); refine blk_far ?_ NB170_173.out _; (with_reducible repeat (first | refine blk_drewN ?_ _ | refine blk_drew ?_ | refine blk_alloc ?_ _)); refine blk_far ?_ NB170_173.out _; (with_reducible repeat (first | refine blk_drewN ?_ _ | refine blk_drew ?_ | refine blk_alloc ?_ _)); refine blk_far ?_ NB170_173.out _; (with_reducible repeat (first | refine blk_drewN ?_ _ | refine blk_drew ?_ | refine blk_alloc ?_ _)); refine blk_far ?_ NB170_173.out _; (with_reducible repeat (first | refine blk_drewN ?_ _ | refine blk_drew ?_ | refine blk_alloc ?_ _)); refine blk_far ?_ NB170_173.out _; (with_reducible repeat (first | refine blk_drewN ?_ _ | refine blk_drew ?_ | refine blk_alloc ?_ _)); refine blk_far ?_ NB170_173.out _; (with_reducible repeat (first | refine blk_drewN ?_ _ | refine blk_drew ?_ | refine blk_alloc ?_ _)); exact BK170.out⟩, ⟨by (with_reducible repeat (first | refine blk_drewN ?_ _ | refine blk_drew ?_ | refine blk_alloc ?_ _)); refine blk_put (cs := #[.bool ((rd_T109 l0_1 x5_1).f0), .bool (true), .int .i64 ((rd_T109 l0_1 x5_1).f2.f0), .int .i64 ((rd_T109 l0_1 x5_1).f2.f1), .int .i64 ((rd_T109 l0_1 x5_1).f2.f2), .int .i64 ((rd_T109 l0_1 x5_1).f2.f3), .int .i64 ((rd_T109 l0_1 x5_1).f3), .int .i64 ((rd_T109 l0_1 x5_1).f4), .int .i64 ((rd_T109 l0_1 x5_1).f5), .int .i64 ((rd_T109 l0_1 x5_1).f6), .bool false]) ?_ 10 _ rfl; (with_reducible repeat (first | refine blk_drewN ?_ _ | refine blk_drew ?_ | refine blk_alloc ?_ _)); refine blk_put (cs := #[.bool ((rd_T109 l0_1 x5_1).f0), .bool (true), .int .i64 ((rd_T109 l0_1 x5_1).f2.f0), .int .i64 ((rd_T109 l0_1 x5_1).f2.f1), .int .i64 ((rd_T109 l0_1 x5_1).f2.f2), .int .i64 ((rd_T109 l0_1 x5_1).f2.f3), .int .i64 ((rd_T109 l0_1 x5_1).f3), .int .i64 ((rd_T109 l0_1 x5_1).f4), .int .i64 ((rd_T109 l0_1 x5_1).f5), .int .i64 0, .bool false]) ?_ 9 _ rfl; (with_reducible repeat (first | refine blk_drewN ?_ _ | refine blk_drew ?_ | refine blk_alloc ?_ _)); refine blk_put (cs := #[.bool ((rd_T109 l0_1 x5_1).f0), .bool (true), .int .i64 ((rd_T109 l0_1 x5_1).f2.f0), .int .i64 ((rd_T109 l0_1 x5_1).f2.f1), .int .i64 ((rd_T109 l0_1 x5_1).f2.f2), .int .i64 ((rd_T109 l0_1 x5_1).f2.f3), .int .i64 ((rd_T109 l0_1 x5_1).f3), .int .i64 ((rd_T109 l0_1 x5_1).f4), .int .i64 0, .int .i64 0, .bool false]) ?_ 8 _ rfl; (with_reducible repeat (first | refine blk_drewN ?_ _ | refine blk_drew ?_ | refine blk_alloc ?_ _)); refine blk_put (cs := #[.bool ((rd_T109 l0_1 x5_1).f0), .bool (true), .int .i64 ((rd_T109 l0_1 x5_1).f2.f0), .int .i64 ((rd_T109 l0_1 x5_1).f2.f1), .int .i64 ((rd_T109 l0_1 x5_1).f2.f2), .int .i64 ((rd_T109 l0_1 x5_1).f2.f3), .int .i64 ((rd_T109 l0_1 x5_1).f3), .int .i64 0, .int .i64 0, .int .i64 0, .bool false]) ?_ 7 _ rfl; (with_reducible repeat (first | refine blk_drewN ?_ _ | refine blk_drew ?_ | refine blk_alloc ?_ _)); refine blk_put (cs := #[.bool ((rd_T109 l0_1 x5_1).f0), .bool (true), .int .i64 ((rd_T109 l0_1 x5_1).f2.f0), .int .i64 ((rd_T109 l0_1 x5_1).f2.f1), .int .i64 ((rd_T109 l0_1 x5_1).f2.f2), .int .i64 ((rd_T109 l0_1 x5_1).f2.f3), .int .i64 0, .int .i64 0, .int .i64 0, .int .i64 0, .bool false]) ?_ 6 _ rfl; (with_reducible repeat (first | refine blk_drewN ?_ _ | refine blk_drew ?_ | refine blk_alloc ?_ _)); refine blk_put (cs := #[.bool ((rd_T109 l0_1 x5_1).f0), .bool (true), .int .i64 ((rd_T109 l0_1 x5_1).f2.f0), .int .i64 ((rd_T109 l0_1 x5_1).f2.f1), .int .i64 ((rd_T109 l0_1 x5_1).f2.f2), .int .i64 0, .int .i64 0, .int .i64 0, .int .i64 0, .int .i64 0, .bool false]) ?_ 5 _ rfl; (with_reducible repeat (first | refine blk_drewN ?_ _ | refine blk_drew ?_ | refine blk_alloc ?_ _)); refine blk_put (cs := #[.bool ((rd_T109 l0_1 x5_1).f0), .bool (true), .int .i64 ((rd_T109 l0_1 x5_1).f2.f0), .int .i64 ((rd_T109 l0_1 x5_1).f2.f1), .int .i64 0, .int .i64 0, .int .i64 0, .int .i64 0, .int .i64 0, .int .i64 0, .bool false]) ?_ 4 _ rfl; (with_reducible repeat (first | refine blk_drewN ?_ _ | refine blk_drew ?_ | refine blk_alloc ?_ _)); refine blk_put (cs := #[.bool ((rd_T109 l0_1 x5_1).f0), .bool (true), .int .i64 ((rd_T109 l0_1 x5_1).f2.f0), .int .i64 0, .int .i64 0, .int .i64 0, .int .i64 0, .int .i64 0, .int .i64 0, .int .i64 0, .bool false]) ?_ 3 _ rfl; (with_reducible repeat (first | refine blk_drewN ?_ _ | refine blk_drew ?_ | refine blk_alloc ?_ _)); refine blk_put (cs := #[.bool ((rd_T109 l0_1 x5_1).f0), .bool (true), .int .i64 0, .int .i64 0, .int .i64 0, .int .i64 0, .int .i64 0, .int .i64 0, .int .i64 0, .int .i64 0, .bool false]) ?_ 2 _ rfl; (with_reducible repeat (first | refine blk_drewN ?_ _ | refine blk_drew ?_ | refine blk_alloc ?_ _)); refine blk_put (cs := #[.bool ((rd_T109 l0_1 x5_1).f0), .bool false, .int .i64 0, .int .i64 0, .int .i64 0, .int .i64 0, .int .i64 0, .int .i64 0, .int .i64 0, .int .i64 0, .bool false]) ?_ 1 _ rfl; (with_reducible repeat (first | refine blk_drewN ?_ _ | refine blk_drew ?_ | refine blk_alloc ?_ _)); refine blk_put (cs := #[.bool false, .bool false, .int .i64 0, .int .i64 0, .int .i64 0, .int .i64 0, .int .i64 0, .int .i64 0, .int .i64 0, .int .i64 0, .bool false]) ?_ 0 _ rfl; (with_reducible repeat (first | refine blk_drewN ?_ _ | refine blk_drew ?_ | refine blk_alloc ?_ _)); exact BK173.out⟩, ⟨by repeat (first | (with_reducible first | exact HB.out | apply below_alloc | apply pw_below_drewN | apply below_drew1 | refine below_set ?_ GE170.out | refine below_set ?_ GE173.out) | exact HB.out)⟩⟩
      rw [if_neg c19] at H
      have c19b0 : (((rd_T109 l0_1 x5_1).f2.f2) == a0_0) = false := beq_eq_false_iff_ne.mpr c19
      have c19b1 : (((rd_T109 l0_1 x5_1).f2.f2) != a0_0) = true := bne_iff_ne.mpr c19
      by_cases c23 : ((rd_T109 l0_1 x5_1).f2.f0) ≥ a0_0
      case pos =>
       rw [if_pos c23] at H
       have c23b0 : decide (a0_0 ≤ ((rd_T109 l0_1 x5_1).f2.f0)) = true := decide_eq_true c23
       clear c23
       have H' := aM H
       clear H
       have hnb24 := NB173_170.out
       have hnc24 := NB170_173.out
       have hcz25_0 : w14.cell? ⟨gb173, 0, none⟩ = some (.bool false) := (blk_cell BK173.out 0).trans rfl
       have hcz25_1 : w14.cell? ⟨gb173, 1, none⟩ = some (.bool false) := (blk_cell BK173.out 1).trans rfl
       have hcz25_2 : w14.cell? ⟨gb173, 2, none⟩ = some (.int .i64 0) := (blk_cell BK173.out 2).trans rfl
       have hcz25_3 : w14.cell? ⟨gb173, 3, none⟩ = some (.int .i64 0) := (blk_cell BK173.out 3).trans rfl
       have hcz25_4 : w14.cell? ⟨gb173, 4, none⟩ = some (.int .i64 0) := (blk_cell BK173.out 4).trans rfl
       have hcz25_5 : w14.cell? ⟨gb173, 5, none⟩ = some (.int .i64 0) := (blk_cell BK173.out 5).trans rfl
       have hcz25_6 : w14.cell? ⟨gb173, 6, none⟩ = some (.int .i64 0) := (blk_cell BK173.out 6).trans rfl
       have hcz25_7 : w14.cell? ⟨gb173, 7, none⟩ = some (.int .i64 0) := (blk_cell BK173.out 7).trans rfl
       have hcz25_8 : w14.cell? ⟨gb173, 8, none⟩ = some (.int .i64 0) := (blk_cell BK173.out 8).trans rfl
       have hcz25_9 : w14.cell? ⟨gb173, 9, none⟩ = some (.int .i64 0) := (blk_cell BK173.out 9).trans rfl
       have hcz25_10 : w14.cell? ⟨gb173, 10, none⟩ = some (.bool false) := (blk_cell BK173.out 10).trans rfl
       have hfz25_0 := blk_frozen BK173.out 0
       have hfz25_1 := blk_frozen BK173.out 1
       have hfz25_2 := blk_frozen BK173.out 2
       have hfz25_3 := blk_frozen BK173.out 3
       have hfz25_4 := blk_frozen BK173.out 4
       have hfz25_5 := blk_frozen BK173.out 5
       have hfz25_6 := blk_frozen BK173.out 6
       have hfz25_7 := blk_frozen BK173.out 7
       have hfz25_8 := blk_frozen BK173.out 8
       have hfz25_9 := blk_frozen BK173.out 9
       have hfz25_10 := blk_frozen BK173.out 10
       have hcz26_0 : w14.cell? ⟨gb170, 0, none⟩ = some (.int .i64 a0_0) := (blk_cell BK170.out 0).trans rfl
       have hcz26_1 : w14.cell? ⟨gb170, 1, none⟩ = some (.slice (some ad172) l0_1.length c0_1) := (blk_cell BK170.out 1).trans rfl
       have hfz26_0 := blk_frozen BK170.out 0
       have hfz26_1 := blk_frozen BK170.out 1
       go_wp2
       go_meet
       case rel => (try rw [← Nbq17.out]); exact ⟨_, (true), (by first | rfl | (simp; done) | (simp [*]; done)), H', ⟨by have := HK1.out; have := HJ2.out; first | omega | exact Nat.le_refl _⟩, ⟨by (with_reducible repeat (first | refine blk_drewN ?_ _ | refine blk_drew ?_ | refine blk_alloc ?_ _)); refine blk_far ?_ NB170_173.out _; (with_reducible repeat (first | refine blk_drewN ?_ _ | refine blk_drew ?_ | refine blk_alloc ?_ _)); refine blk_far ?_ NB170_173.out _; (with_reducible repeat (first | refine blk_drewN ?_ _ | refine blk_drew ?_ | refine blk_alloc ?_ _)); refine blk_far ?_ NB170_173.out _; (with_reducible repeat (first | refine blk_drewN ?_ _ | refine blk_drew ?_ | refine blk_alloc ?_ _)); refine blk_far ?_ NB170_173.out _; (with_reducible repeat (first | refine blk_drewN ?_ _ | refine blk_drew ?_ | refine blk_alloc ?_ _)); refine blk_far ?_ NB170_173.out _; (with_reducible repeat (first | refine blk_drewN ?_ _ | refine blk_drew ?_ | refine blk_alloc ?_ _)); refine blk_far ?_ NB170_173.out _; (with_reducible repeat (first | refine blk_drewN ?_ _ | refine blk_drew ?_ | refine blk_alloc ?_ _)); refine blk_far ?_ NB170_173.out _; (with_reducible repeat (first | refine blk_drewN ?_ _ | refine blk_drew ?_ | refine blk_alloc ?_ _)); refine blk_far ?_ NB170_173.out _; (with_reducible repeat (first | refine blk_drewN ?_ _ | refine blk_drew ?_ | refine blk_alloc ?_ _)); refine blk_far ?_ NB170_173.out _; (with_reducible repeat (first | refine blk_drewN ?_ _ | refine blk_drew ?_ | refine blk_alloc ?_ _)); refine blk_far ?_ NB170_173.out _; (with_reducible repeat (first | refine blk_drewN ?_ _ | refine blk_drew ?_ | refine blk_alloc ?_ _)); refine blk_far ?_ NB170_173.out _; (with_reducible repeat (first | refine blk_drewN ?_ _ | refine blk_drew ?_ | refine blk_alloc ?_ _)); exact BK170.out⟩, ⟨by (with_reducible repeat (first | refine blk_drewN ?_ _ | refine blk_drew ?_ | refine blk_alloc ?_ _)); refine blk_put (cs := #[.bool ((rd_T109 l0_1 x5_1).f0), .bool (true), .int .i64 ((rd_T109 l0_1 x5_1).f2.f0), .int .i64 ((rd_T109 l0_1 x5_1).f2.f1), .int .i64 ((rd_T109 l0_1 x5_1).f2.f2), .int .i64 ((rd_T109 l0_1 x5_1).f2.f3), .int .i64 ((rd_T109 l0_1 x5_1).f3), .int .i64 ((rd_T109 l0_1 x5_1).f4), .int .i64 ((rd_T109 l0_1 x5_1).f5), .int .i64 ((rd_T109 l0_1 x5_1).f6), .bool false]) ?_ 10 _ rfl; (with_reducible repeat (first | refine blk_drewN ?_ _ | refine blk_drew ?_ | refine blk_alloc ?_ _)); refine blk_put (cs := #[.bool ((rd_T109 l0_1 x5_1).f0), .bool (true), .int .i64 ((rd_T109 l0_1 x5_1).f2.f0), .int .i64 ((rd_T109 l0_1 x5_1).f2.f1), .int .i64 ((rd_T109 l0_1 x5_1).f2.f2), .int .i64 ((rd_T109 l0_1 x5_1).f2.f3), .int .i64 ((rd_T109 l0_1 x5_1).f3), .int .i64 ((rd_T109 l0_1 x5_1).f4), .int .i64 ((rd_T109 l0_1 x5_1).f5), .int .i64 0, .bool false]) ?_ 9 _ rfl; (with_reducible repeat (first | refine blk_drewN ?_ _ | refine blk_drew ?_ | refine blk_alloc ?_ _)); refine blk_put (cs := #[.bool ((rd_T109 l0_1 x5_1).f0), .bool (true), .int .i64 ((rd_T109 l0_1 x5_1).f2.f0), .int .i64 ((rd_T109 l0_1 x5_1).f2.f1), .int .i64 ((rd_T109 l0_1 x5_1).f2.f2), .int .i64 ((rd_T109 l0_1 x5_1).f2.f3), .int .i64 ((rd_T109 l0_1 x5_1).f3), .int .i64 ((rd_T109 l0_1 x5_1).f4), .int .i64 0, .int .i64 0, .bool false]) ?_ 8 _ rfl; (with_reducible repeat (first | refine blk_drewN ?_ _ | refine blk_drew ?_ | refine blk_alloc ?_ _)); refine blk_put (cs := #[.bool ((rd_T109 l0_1 x5_1).f0), .bool (true), .int .i64 ((rd_T109 l0_1 x5_1).f2.f0), .int .i64 ((rd_T109 l0_1 x5_1).f2.f1), .int .i64 ((rd_T109 l0_1 x5_1).f2.f2), .int .i64 ((rd_T109 l0_1 x5_1).f2.f3), .int .i64 ((rd_T109 l0_1 x5_1).f3), .int .i64 0, .int .i64 0, .int .i64 0, .bool false]) ?_ 7 _ rfl; (with_reducible repeat (first | refine blk_drewN ?_ _ | refine blk_drew ?_ | refine blk_alloc ?_ _)); refine blk_put (cs := #[.bool ((rd_T109 l0_1 x5_1).f0), .bool (true), .int .i64 ((rd_T109 l0_1 x5_1).f2.f0), .int .i64 ((rd_T109 l0_1 x5_1).f2.f1), .int .i64 ((rd_T109 l0_1 x5_1).f2.f2), .int .i64 ((rd_T109 l0_1 x5_1).f2.f3), .int .i64 0, .int .i64 0, .int .i64 0, .int .i64 0, .bool false]) ?_ 6 _ rfl; (with_reducible repeat (first | refine blk_drewN ?_ _ | refine blk_drew ?_ | refine blk_alloc ?_ _)); refine blk_put (cs := #[.bool ((rd_T109 l0_1 x5_1).f0), .bool (true), .int .i64 ((rd_T109 l0_1 x5_1).f2.f0), .int .i64 ((rd_T109 l0_1 x5_1).f2.f1), .int .i64 ((rd_T109 l0_1 x5_1).f2.f2), .int .i64 0, .int .i64 0, .int .i64 0, .int .i64 0, .int .i64 0, .bool false]) ?_ 5 _ rfl; (with_reducible repeat (first | refine blk_drewN ?_ _ | refine blk_drew ?_ | refine blk_alloc ?_ _)); refine blk_put (cs := #[.bool ((rd_T109 l0_1 x5_1).f0), .bool (true), .int .i64 ((rd_T109 l0_1 x5_1).f2.f0), .int .i64 ((rd_T109 l0_1 x5_1).f2.f1), .int .i64 0, .int .i64 0, .int .i64 0, .int .i64 0, .int .i64 0, .int .i64 0, .bool false]) ?_ 4 _ rfl; (with_reducible repeat (first | refine blk_drewN ?_ _ | refine blk_drew ?_ | refine blk_alloc ?_ _)); refine blk_put (cs := #[.bool ((rd_T109 l0_1 x5_1).f0), .bool (true), .int .i64 ((rd_T109 l0_1 x5_1).f2.f0), .int .i64 0, .int .i64 0, .int .i64 0, .int .i64 0, .int .i64 0, .int .i64 0, .int .i64 0, .bool false]) ?_ 3 _ rfl; (with_reducible repeat (first | refine blk_drewN ?_ _ | refine blk_drew ?_ | refine blk_alloc ?_ _)); refine blk_put (cs := #[.bool ((rd_T109 l0_1 x5_1).f0), .bool (true), .int .i64 0, .int .i64 0, .int .i64 0, .int .i64 0, .int .i64 0, .int .i64 0, .int .i64 0, .int .i64 0, .bool false]) ?_ 2 _ rfl; (with_reducible repeat (first | refine blk_drewN ?_ _ | refine blk_drew ?_ | refine blk_alloc ?_ _)); refine blk_put (cs := #[.bool ((rd_T109 l0_1 x5_1).f0), .bool false, .int .i64 0, .int .i64 0, .int .i64 0, .int .i64 0, .int .i64 0, .int .i64 0, .int .i64 0, .int .i64 0, .bool false]) ?_ 1 _ rfl; (with_reducible repeat (first | refine blk_drewN ?_ _ | refine blk_drew ?_ | refine blk_alloc ?_ _)); refine blk_put (cs := #[.bool false, .bool false, .int .i64 0, .int .i64 0, .int .i64 0, .int .i64 0, .int .i64 0, .int .i64 0, .int .i64 0, .int .i64 0, .bool false]) ?_ 0 _ rfl; (with_reducible repeat (first | refine blk_drewN ?_ _ | refine blk_drew ?_ | refine blk_alloc ?_ _)); exact BK173.out⟩, ⟨by repeat (first | (with_reducible first | exact HB.out | apply below_alloc | apply pw_below_drewN | apply below_drew1 | refine below_set ?_ GE170.out | refine below_set ?_ GE173.out) | exact HB.out)⟩⟩
      rw [if_neg c23] at H
      have c23b0 : decide (a0_0 ≤ ((rd_T109 l0_1 x5_1).f2.f0)) = false := decide_eq_false c23
      clear c23
      by_cases c27 : ((rd_T109 l0_1 x5_1).f2.f1) ≥ 20
      case pos =>
       rw [if_pos c27] at H
       have c27b0 : decide (20 ≤ ((rd_T109 l0_1 x5_1).f2.f1)) = true := decide_eq_true c27
       clear c27
       have H' := aM H
       clear H
       have hnb28 := NB173_170.out
       have hnc28 := NB170_173.out
       have hcz29_0 : w14.cell? ⟨gb173, 0, none⟩ = some (.bool false) := (blk_cell BK173.out 0).trans rfl
       have hcz29_1 : w14.cell? ⟨gb173, 1, none⟩ = some (.bool false) := (blk_cell BK173.out 1).trans rfl
       have hcz29_2 : w14.cell? ⟨gb173, 2, none⟩ = some (.int .i64 0) := (blk_cell BK173.out 2).trans rfl
       have hcz29_3 : w14.cell? ⟨gb173, 3, none⟩ = some (.int .i64 0) := (blk_cell BK173.out 3).trans rfl
       have hcz29_4 : w14.cell? ⟨gb173, 4, none⟩ = some (.int .i64 0) := (blk_cell BK173.out 4).trans rfl
       have hcz29_5 : w14.cell? ⟨gb173, 5, none⟩ = some (.int .i64 0) := (blk_cell BK173.out 5).trans rfl
       have hcz29_6 : w14.cell? ⟨gb173, 6, none⟩ = some (.int .i64 0) := (blk_cell BK173.out 6).trans rfl
       have hcz29_7 : w14.cell? ⟨gb173, 7, none⟩ = some (.int .i64 0) := (blk_cell BK173.out 7).trans rfl
       have hcz29_8 : w14.cell? ⟨gb173, 8, none⟩ = some (.int .i64 0) := (blk_cell BK173.out 8).trans rfl
       have hcz29_9 : w14.cell? ⟨gb173, 9, none⟩ = some (.int .i64 0) := (blk_cell BK173.out 9).trans rfl
       have hcz29_10 : w14.cell? ⟨gb173, 10, none⟩ = some (.bool false) := (blk_cell BK173.out 10).trans rfl
       have hfz29_0 := blk_frozen BK173.out 0
       have hfz29_1 := blk_frozen BK173.out 1
       have hfz29_2 := blk_frozen BK173.out 2
       have hfz29_3 := blk_frozen BK173.out 3
       have hfz29_4 := blk_frozen BK173.out 4
       have hfz29_5 := blk_frozen BK173.out 5
       have hfz29_6 := blk_frozen BK173.out 6
       have hfz29_7 := blk_frozen BK173.out 7
       have hfz29_8 := blk_frozen BK173.out 8
       have hfz29_9 := blk_frozen BK173.out 9
       have hfz29_10 := blk_frozen BK173.out 10
       have hcz30_0 : w14.cell? ⟨gb170, 0, none⟩ = some (.int .i64 a0_0) := (blk_cell BK170.out 0).trans rfl
       have hcz30_1 : w14.cell? ⟨gb170, 1, none⟩ = some (.slice (some ad172) l0_1.length c0_1) := (blk_cell BK170.out 1).trans rfl
       have hfz30_0 := blk_frozen BK170.out 0
       have hfz30_1 := blk_frozen BK170.out 1
       go_wp2
       go_meet
       case rel => (try rw [← Nbq17.out]); exact ⟨_, (true), (by first | rfl | (simp; done) | (simp [*]; done)), H', ⟨by have := HK1.out; have := HJ2.out; first | omega | exact Nat.le_refl _⟩, ⟨by (with_reducible repeat (first | refine blk_drewN ?_ _ | refine blk_drew ?_ | refine blk_alloc ?_ _)); refine blk_far ?_ NB170_173.out _; (with_reducible repeat (first | refine blk_drewN ?_ _ | refine blk_drew ?_ | refine blk_alloc ?_ _)); refine blk_far ?_ NB170_173.out _; (with_reducible repeat (first | refine blk_drewN ?_ _ | refine blk_drew ?_ | refine blk_alloc ?_ _)); refine blk_far ?_ NB170_173.out _; (with_reducible repeat (first | refine blk_drewN ?_ _ | refine blk_drew ?_ | refine blk_alloc ?_ _)); refine blk_far ?_ NB170_173.out _; (with_reducible repeat (first | refine blk_drewN ?_ _ | refine blk_drew ?_ | refine blk_alloc ?_ _)); refine blk_far ?_ NB170_173.out _; (with_reducible repeat (first | refine blk_drewN ?_ _ | refine blk_drew ?_ | refine blk_alloc ?_ _)); refine blk_far ?_ NB170_173.out _; (with_reducible repeat (first | refine blk_drewN ?_ _ | refine blk_drew ?_ | refine blk_alloc ?_ _)); refine blk_far ?_ NB170_173.out _; (with_reducible repeat (first | refine blk_drewN ?_ _ | refine blk_drew ?_ | refine blk_alloc ?_ _)); refine blk_far ?_ NB170_173.out _; (with_reducible repeat (first | refine blk_drewN ?_ _ | refine blk_drew ?_ | refine blk_alloc ?_ _)); refine blk_far ?_ NB170_173.out _; (with_reducible repeat (first | refine blk_drewN ?_ _ | refine blk_drew ?_ | refine blk_alloc ?_ _)); refine blk_far ?_ NB170_173.out _; (with_reducible repeat (first | refine blk_drewN ?_ _ | refine blk_drew ?_ | refine blk_alloc ?_ _)); refine blk_far ?_ NB170_173.out _; (with_reducible repeat (first | refine blk_drewN ?_ _ | refine blk_drew ?_ | refine blk_alloc ?_ _)); exact BK170.out⟩, ⟨by (with_reducible repeat (first | refine blk_drewN ?_ _ | refine blk_drew ?_ | refine blk_alloc ?_ _)); refine blk_put (cs := #[.bool ((rd_T109 l0_1 x5_1).f0), .bool (true), .int .i64 ((rd_T109 l0_1 x5_1).f2.f0), .int .i64 ((rd_T109 l0_1 x5_1).f2.f1), .int .i64 ((rd_T109 l0_1 x5_1).f2.f2), .int .i64 ((rd_T109 l0_1 x5_1).f2.f3), .int .i64 ((rd_T109 l0_1 x5_1).f3), .int .i64 ((rd_T109 l0_1 x5_1).f4), .int .i64 ((rd_T109 l0_1 x5_1).f5), .int .i64 ((rd_T109 l0_1 x5_1).f6), .bool false]) ?_ 10 _ rfl; (with_reducible repeat (first | refine blk_drewN ?_ _ | refine blk_drew ?_ | refine blk_alloc ?_ _)); refine blk_put (cs := #[.bool ((rd_T109 l0_1 x5_1).f0), .bool (true), .int .i64 ((rd_T109 l0_1 x5_1).f2.f0), .int .i64 ((rd_T109 l0_1 x5_1).f2.f1), .int .i64 ((rd_T109 l0_1 x5_1).f2.f2), .int .i64 ((rd_T109 l0_1 x5_1).f2.f3), .int .i64 ((rd_T109 l0_1 x5_1).f3), .int .i64 ((rd_T109 l0_1 x5_1).f4), .int .i64 ((rd_T109 l0_1 x5_1).f5), .int .i64 0, .bool false]) ?_ 9 _ rfl; (with_reducible repeat (first | refine blk_drewN ?_ _ | refine blk_drew ?_ | refine blk_alloc ?_ _)); refine blk_put (cs := #[.bool ((rd_T109 l0_1 x5_1).f0), .bool (true), .int .i64 ((rd_T109 l0_1 x5_1).f2.f0), .int .i64 ((rd_T109 l0_1 x5_1).f2.f1), .int .i64 ((rd_T109 l0_1 x5_1).f2.f2), .int .i64 ((rd_T109 l0_1 x5_1).f2.f3), .int .i64 ((rd_T109 l0_1 x5_1).f3), .int .i64 ((rd_T109 l0_1 x5_1).f4), .int .i64 0, .int .i64 0, .bool false]) ?_ 8 _ rfl; (with_reducible repeat (first | refine blk_drewN ?_ _ | refine blk_drew ?_ | refine blk_alloc ?_ _)); refine blk_put (cs := #[.bool ((rd_T109 l0_1 x5_1).f0), .bool (true), .int .i64 ((rd_T109 l0_1 x5_1).f2.f0), .int .i64 ((rd_T109 l0_1 x5_1).f2.f1), .int .i64 ((rd_T109 l0_1 x5_1).f2.f2), .int .i64 ((rd_T109 l0_1 x5_1).f2.f3), .int .i64 ((rd_T109 l0_1 x5_1).f3), .int .i64 0, .int .i64 0, .int .i64 0, .bool false]) ?_ 7 _ rfl; (with_reducible repeat (first | refine blk_drewN ?_ _ | refine blk_drew ?_ | refine blk_alloc ?_ _)); refine blk_put (cs := #[.bool ((rd_T109 l0_1 x5_1).f0), .bool (true), .int .i64 ((rd_T109 l0_1 x5_1).f2.f0), .int .i64 ((rd_T109 l0_1 x5_1).f2.f1), .int .i64 ((rd_T109 l0_1 x5_1).f2.f2), .int .i64 ((rd_T109 l0_1 x5_1).f2.f3), .int .i64 0, .int .i64 0, .int .i64 0, .int .i64 0, .bool false]) ?_ 6 _ rfl; (with_reducible repeat (first | refine blk_drewN ?_ _ | refine blk_drew ?_ | refine blk_alloc ?_ _)); refine blk_put (cs := #[.bool ((rd_T109 l0_1 x5_1).f0), .bool (true), .int .i64 ((rd_T109 l0_1 x5_1).f2.f0), .int .i64 ((rd_T109 l0_1 x5_1).f2.f1), .int .i64 ((rd_T109 l0_1 x5_1).f2.f2), .int .i64 0, .int .i64 0, .int .i64 0, .int .i64 0, .int .i64 0, .bool false]) ?_ 5 _ rfl; (with_reducible repeat (first | refine blk_drewN ?_ _ | refine blk_drew ?_ | refine blk_alloc ?_ _)); refine blk_put (cs := #[.bool ((rd_T109 l0_1 x5_1).f0), .bool (true), .int .i64 ((rd_T109 l0_1 x5_1).f2.f0), .int .i64 ((rd_T109 l0_1 x5_1).f2.f1), .int .i64 0, .int .i64 0, .int .i64 0, .int .i64 0, .int .i64 0, .int .i64 0, .bool false]) ?_ 4 _ rfl; (with_reducible repeat (first | refine blk_drewN ?_ _ | refine blk_drew ?_ | refine blk_alloc ?_ _)); refine blk_put (cs := #[.bool ((rd_T109 l0_1 x5_1).f0), .bool (true), .int .i64 ((rd_T109 l0_1 x5_1).f2.f0), .int .i64 0, .int .i64 0, .int .i64 0, .int .i64 0, .int .i64 0, .int .i64 0, .int .i64 0, .bool false]) ?_ 3 _ rfl; (with_reducible repeat (first | refine blk_drewN ?_ _ | refine blk_drew ?_ | refine blk_alloc ?_ _)); refine blk_put (cs := #[.bool ((rd_T109 l0_1 x5_1).f0), .bool (true), .int .i64 0, .int .i64 0, .int .i64 0, .int .i64 0, .int .i64 0, .int .i64 0, .int .i64 0, .int .i64 0, .bool false]) ?_ 2 _ rfl; (with_reducible repeat (first | refine blk_drewN ?_ _ | refine blk_drew ?_ | refine blk_alloc ?_ _)); refine blk_put (cs := #[.bool ((rd_T109 l0_1 x5_1).f0), .bool false, .int .i64 0, .int .i64 0, .int .i64 0, .int .i64 0, .int .i64 0, .int .i64 0, .int .i64 0, .int .i64 0, .bool false]) ?_ 1 _ rfl; (with_reducible repeat (first | refine blk_drewN ?_ _ | refine blk_drew ?_ | refine blk_alloc ?_ _)); refine blk_put (cs := #[.bool false, .bool false, .int .i64 0, .int .i64 0, .int .i64 0, .int .i64 0, .int .i64 0, .int .i64 0, .int .i64 0, .int .i64 0, .bool false]) ?_ 0 _ rfl; (with_reducible repeat (first | refine blk_drewN ?_ _ | refine blk_drew ?_ | refine blk_alloc ?_ _)); exact BK173.out⟩, ⟨by repeat (first | (with_reducible first | exact HB.out | apply below_alloc | apply pw_below_drewN | apply below_drew1 | refine below_set ?_ GE170.out | refine below_set ?_ GE173.out) | exact HB.out)⟩⟩
      rw [if_neg c27] at H
      have c27b0 : decide (20 ≤ ((rd_T109 l0_1 x5_1).f2.f1)) = false := decide_eq_false c27
      clear c27
      have H' := aM H
      clear H
      have hnb31 := NB173_170.out
      have hnc31 := NB170_173.out
      have hcz32_0 : w14.cell? ⟨gb173, 0, none⟩ = some (.bool false) := (blk_cell BK173.out 0).trans rfl
      have hcz32_1 : w14.cell? ⟨gb173, 1, none⟩ = some (.bool false) := (blk_cell BK173.out 1).trans rfl
      have hcz32_2 : w14.cell? ⟨gb173, 2, none⟩ = some (.int .i64 0) := (blk_cell BK173.out 2).trans rfl
      have hcz32_3 : w14.cell? ⟨gb173, 3, none⟩ = some (.int .i64 0) := (blk_cell BK173.out 3).trans rfl
      have hcz32_4 : w14.cell? ⟨gb173, 4, none⟩ = some (.int .i64 0) := (blk_cell BK173.out 4).trans rfl
      have hcz32_5 : w14.cell? ⟨gb173, 5, none⟩ = some (.int .i64 0) := (blk_cell BK173.out 5).trans rfl
      have hcz32_6 : w14.cell? ⟨gb173, 6, none⟩ = some (.int .i64 0) := (blk_cell BK173.out 6).trans rfl
      have hcz32_7 : w14.cell? ⟨gb173, 7, none⟩ = some (.int .i64 0) := (blk_cell BK173.out 7).trans rfl
      have hcz32_8 : w14.cell? ⟨gb173, 8, none⟩ = some (.int .i64 0) := (blk_cell BK173.out 8).trans rfl
      have hcz32_9 : w14.cell? ⟨gb173, 9, none⟩ = some (.int .i64 0) := (blk_cell BK173.out 9).trans rfl
      have hcz32_10 : w14.cell? ⟨gb173, 10, none⟩ = some (.bool false) := (blk_cell BK173.out 10).trans rfl
      have hfz32_0 := blk_frozen BK173.out 0
      have hfz32_1 := blk_frozen BK173.out 1
      have hfz32_2 := blk_frozen BK173.out 2
      have hfz32_3 := blk_frozen BK173.out 3
      have hfz32_4 := blk_frozen BK173.out 4
      have hfz32_5 := blk_frozen BK173.out 5
      have hfz32_6 := blk_frozen BK173.out 6
      have hfz32_7 := blk_frozen BK173.out 7
      have hfz32_8 := blk_frozen BK173.out 8
      have hfz32_9 := blk_frozen BK173.out 9
      have hfz32_10 := blk_frozen BK173.out 10
      have hcz33_0 : w14.cell? ⟨gb170, 0, none⟩ = some (.int .i64 a0_0) := (blk_cell BK170.out 0).trans rfl
      have hcz33_1 : w14.cell? ⟨gb170, 1, none⟩ = some (.slice (some ad172) l0_1.length c0_1) := (blk_cell BK170.out 1).trans rfl
      have hfz33_0 := blk_frozen BK170.out 0
      have hfz33_1 := blk_frozen BK170.out 1
      go_wp2
      go_meet
      case rel => (try rw [← Nbq17.out]); exact ⟨_, (decide (((rd_T109 l0_1 x5_1).f3) ≥ 8)), (by first | rfl | (simp; done) | (simp [*]; done)), H', ⟨by have := HK1.out; have := HJ2.out; first | omega | exact Nat.le_refl _⟩, ⟨by (with_reducible repeat (first | refine blk_drewN ?_ _ | refine blk_drew ?_ | refine blk_alloc ?_ _)); refine blk_far ?_ NB170_173.out _; (with_reducible repeat (first | refine blk_drewN ?_ _ | refine blk_drew ?_ | refine blk_alloc ?_ _)); refine blk_far ?_ NB170_173.out _; (with_reducible repeat (first | refine blk_drewN ?_ _ | refine blk_drew ?_ | refine blk_alloc ?_ _)); refine blk_far ?_ NB170_173.out _; (with_reducible repeat (first | refine blk_drewN ?_ _ | refine blk_drew ?_ | refine blk_alloc ?_ _)); refine blk_far ?_ NB170_173.out _; (with_reducible repeat (first | refine blk_drewN ?_ _ | refine blk_drew ?_ | refine blk_alloc ?_ _)); refine blk_far ?_ NB170_173.out _; (with_reducible repeat (first | refine blk_drewN ?_ _ | refine blk_drew ?_ | refine blk_alloc ?_ _)); refine blk_far ?_ NB170_173.out _; (with_reducible repeat (first | refine blk_drewN ?_ _ | refine blk_drew ?_ | refine blk_alloc ?_ _)); refine blk_far ?_ NB170_173.out _; (with_reducible repeat (first | refine blk_drewN ?_ _ | refine blk_drew ?_ | refine blk_alloc ?_ _)); refine blk_far ?_ NB170_173.out _; (with_reducible repeat (first | refine blk_drewN ?_ _ | refine blk_drew ?_ | refine blk_alloc ?_ _)); refine blk_far ?_ NB170_173.out _; (with_reducible repeat (first | refine blk_drewN ?_ _ | refine blk_drew ?_ | refine blk_alloc ?_ _)); refine blk_far ?_ NB170_173.out _; (with_reducible repeat (first | refine blk_drewN ?_ _ | refine blk_drew ?_ | refine blk_alloc ?_ _)); refine blk_far ?_ NB170_173.out _; (with_reducible repeat (first | refine blk_drewN ?_ _ | refine blk_drew ?_ | refine blk_alloc ?_ _)); exact BK170.out⟩, ⟨by (with_reducible repeat (first | refine blk_drewN ?_ _ | refine blk_drew ?_ | refine blk_alloc ?_ _)); refine blk_put (cs := #[.bool ((rd_T109 l0_1 x5_1).f0), .bool (true), .int .i64 ((rd_T109 l0_1 x5_1).f2.f0), .int .i64 ((rd_T109 l0_1 x5_1).f2.f1), .int .i64 ((rd_T109 l0_1 x5_1).f2.f2), .int .i64 ((rd_T109 l0_1 x5_1).f2.f3), .int .i64 ((rd_T109 l0_1 x5_1).f3), .int .i64 ((rd_T109 l0_1 x5_1).f4), .int .i64 ((rd_T109 l0_1 x5_1).f5), .int .i64 ((rd_T109 l0_1 x5_1).f6), .bool false]) ?_ 10 _ rfl; (with_reducible repeat (first | refine blk_drewN ?_ _ | refine blk_drew ?_ | refine blk_alloc ?_ _)); refine blk_put (cs := #[.bool ((rd_T109 l0_1 x5_1).f0), .bool (true), .int .i64 ((rd_T109 l0_1 x5_1).f2.f0), .int .i64 ((rd_T109 l0_1 x5_1).f2.f1), .int .i64 ((rd_T109 l0_1 x5_1).f2.f2), .int .i64 ((rd_T109 l0_1 x5_1).f2.f3), .int .i64 ((rd_T109 l0_1 x5_1).f3), .int .i64 ((rd_T109 l0_1 x5_1).f4), .int .i64 ((rd_T109 l0_1 x5_1).f5), .int .i64 0, .bool false]) ?_ 9 _ rfl; (with_reducible repeat (first | refine blk_drewN ?_ _ | refine blk_drew ?_ | refine blk_alloc ?_ _)); refine blk_put (cs := #[.bool ((rd_T109 l0_1 x5_1).f0), .bool (true), .int .i64 ((rd_T109 l0_1 x5_1).f2.f0), .int .i64 ((rd_T109 l0_1 x5_1).f2.f1), .int .i64 ((rd_T109 l0_1 x5_1).f2.f2), .int .i64 ((rd_T109 l0_1 x5_1).f2.f3), .int .i64 ((rd_T109 l0_1 x5_1).f3), .int .i64 ((rd_T109 l0_1 x5_1).f4), .int .i64 0, .int .i64 0, .bool false]) ?_ 8 _ rfl; (with_reducible repeat (first | refine blk_drewN ?_ _ | refine blk_drew ?_ | refine blk_alloc ?_ _)); refine blk_put (cs := #[.bool ((rd_T109 l0_1 x5_1).f0), .bool (true), .int .i64 ((rd_T109 l0_1 x5_1).f2.f0), .int .i64 ((rd_T109 l0_1 x5_1).f2.f1), .int .i64 ((rd_T109 l0_1 x5_1).f2.f2), .int .i64 ((rd_T109 l0_1 x5_1).f2.f3), .int .i64 ((rd_T109 l0_1 x5_1).f3), .int .i64 0, .int .i64 0, .int .i64 0, .bool false]) ?_ 7 _ rfl; (with_reducible repeat (first | refine blk_drewN ?_ _ | refine blk_drew ?_ | refine blk_alloc ?_ _)); refine blk_put (cs := #[.bool ((rd_T109 l0_1 x5_1).f0), .bool (true), .int .i64 ((rd_T109 l0_1 x5_1).f2.f0), .int .i64 ((rd_T109 l0_1 x5_1).f2.f1), .int .i64 ((rd_T109 l0_1 x5_1).f2.f2), .int .i64 ((rd_T109 l0_1 x5_1).f2.f3), .int .i64 0, .int .i64 0, .int .i64 0, .int .i64 0, .bool false]) ?_ 6 _ rfl; (with_reducible repeat (first | refine blk_drewN ?_ _ | refine blk_drew ?_ | refine blk_alloc ?_ _)); refine blk_put (cs := #[.bool ((rd_T109 l0_1 x5_1).f0), .bool (true), .int .i64 ((rd_T109 l0_1 x5_1).f2.f0), .int .i64 ((rd_T109 l0_1 x5_1).f2.f1), .int .i64 ((rd_T109 l0_1 x5_1).f2.f2), .int .i64 0, .int .i64 0, .int .i64 0, .int .i64 0, .int .i64 0, .bool false]) ?_ 5 _ rfl; (with_reducible repeat (first | refine blk_drewN ?_ _ | refine blk_drew ?_ | refine blk_alloc ?_ _)); refine blk_put (cs := #[.bool ((rd_T109 l0_1 x5_1).f0), .bool (true), .int .i64 ((rd_T109 l0_1 x5_1).f2.f0), .int .i64 ((rd_T109 l0_1 x5_1).f2.f1), .int .i64 0, .int .i64 0, .int .i64 0, .int .i64 0, .int .i64 0, .int .i64 0, .bool false]) ?_ 4 _ rfl; (with_reducible repeat (first | refine blk_drewN ?_ _ | refine blk_drew ?_ | refine blk_alloc ?_ _)); refine blk_put (cs := #[.bool ((rd_T109 l0_1 x5_1).f0), .bool (true), .int .i64 ((rd_T109 l0_1 x5_1).f2.f0), .int .i64 0, .int .i64 0, .int .i64 0, .int .i64 0, .int .i64 0, .int .i64 0, .int .i64 0, .bool false]) ?_ 3 _ rfl; (with_reducible repeat (first | refine blk_drewN ?_ _ | refine blk_drew ?_ | refine blk_alloc ?_ _)); refine blk_put (cs := #[.bool ((rd_T109 l0_1 x5_1).f0), .bool (true), .int .i64 0, .int .i64 0, .int .i64 0, .int .i64 0, .int .i64 0, .int .i64 0, .int .i64 0, .int .i64 0, .bool false]) ?_ 2 _ rfl; (with_reducible repeat (first | refine blk_drewN ?_ _ | refine blk_drew ?_ | refine blk_alloc ?_ _)); refine blk_put (cs := #[.bool ((rd_T109 l0_1 x5_1).f0), .bool false, .int .i64 0, .int .i64 0, .int .i64 0, .int .i64 0, .int .i64 0, .int .i64 0, .int .i64 0, .int .i64 0, .bool false]) ?_ 1 _ rfl; (with_reducible repeat (first | refine blk_drewN ?_ _ | refine blk_drew ?_ | refine blk_alloc ?_ _)); refine blk_put (cs := #[.bool false, .bool false, .int .i64 0, .int .i64 0, .int .i64 0, .int .i64 0, .int .i64 0, .int .i64 0, .int .i64 0, .int .i64 0, .bool false]) ?_ 0 _ rfl; (with_reducible repeat (first | refine blk_drewN ?_ _ | refine blk_drew ?_ | refine blk_alloc ?_ _)); exact BK173.out⟩, ⟨by repeat (first | (with_reducible first | exact HB.out | apply below_alloc | apply pw_below_drewN | apply below_drew1 | refine below_set ?_ GE170.out | refine below_set ?_ GE173.out) | exact HB.out)⟩⟩
     case rest =>
      clear HC12
      try clear c1
      try clear p1
      try clear q1
      try clear hx1
      try clear c2
      try clear p2
      try clear c3
      try clear c4
      try clear c4b0
      try clear c9
      try clear c10
      try clear c10b0
      try clear c11
      try clear c11b0
      try clear c15
      try clear p17
      try clear q17
      try clear hx17
      try clear c18
      try clear c19
      try clear c19b0
      try clear c19b1
      try clear c20
      try clear c23
      try clear c23b0
      try clear c24
      try clear c27
      try clear c27b0
      try clear c28
      try clear c31
      try clear c34
      try clear hcz13_0
      try clear hcz13_1
      try clear hcz16_0
      try clear hcz16_1
      try clear hcz16_10
      try clear hcz16_2
      try clear hcz16_3
      try clear hcz16_4
      try clear hcz16_5
      try clear hcz16_6
      try clear hcz16_7
      try clear hcz16_8
      try clear hcz16_9
      try clear hcz21_0
      try clear hcz21_1
      try clear hcz21_10
      try clear hcz21_2
      try clear hcz21_3
      try clear hcz21_4
      try clear hcz21_5
      try clear hcz21_6
      try clear hcz21_7
      try clear hcz21_8
      try clear hcz21_9
      try clear hcz22_0
      try clear hcz22_1
      try clear hcz25_0
      try clear hcz25_1
      try clear hcz25_10
      try clear hcz25_2
      try clear hcz25_3
      try clear hcz25_4
      try clear hcz25_5
      try clear hcz25_6
      try clear hcz25_7
      try clear hcz25_8
      try clear hcz25_9
      try clear hcz26_0
      try clear hcz26_1
      try clear hcz29_0
      try clear hcz29_1
      try clear hcz29_10
      try clear hcz29_2
      try clear hcz29_3
      try clear hcz29_4
      try clear hcz29_5
      try clear hcz29_6
      try clear hcz29_7
      try clear hcz29_8
      try clear hcz29_9
      try clear hcz30_0
      try clear hcz30_1
      try clear hcz32_0
      try clear hcz32_1
      try clear hcz32_10
      try clear hcz32_2
      try clear hcz32_3
      try clear hcz32_4
      try clear hcz32_5
      try clear hcz32_6
      try clear hcz32_7
      try clear hcz32_8
      try clear hcz32_9
      try clear hcz33_0
      try clear hcz33_1
      try clear hcz35_0
      try clear hcz35_1
      try clear hcz35_10
      try clear hcz35_2
      try clear hcz35_3
      try clear hcz35_4
      try clear hcz35_5
      try clear hcz35_6
      try clear hcz35_7
      try clear hcz35_8
      try clear hcz35_9
      try clear hcz6_0
      try clear hcz6_1
      try clear hcz8_0
      try clear hcz8_1
      try clear hfz13_0
      try clear hfz13_1
      try clear hfz16_0
      try clear hfz16_1
      try clear hfz16_10
      try clear hfz16_2
      try clear hfz16_3
      try clear hfz16_4
      try clear hfz16_5
      try clear hfz16_6
      try clear hfz16_7
      try clear hfz16_8
      try clear hfz16_9
      try clear hfz21_0
      try clear hfz21_1
      try clear hfz21_10
      try clear hfz21_2
      try clear hfz21_3
      try clear hfz21_4
      try clear hfz21_5
      try clear hfz21_6
      try clear hfz21_7
      try clear hfz21_8
      try clear hfz21_9
      try clear hfz22_0
      try clear hfz22_1
      try clear hfz25_0
      try clear hfz25_1
      try clear hfz25_10
      try clear hfz25_2
      try clear hfz25_3
      try clear hfz25_4
      try clear hfz25_5
      try clear hfz25_6
      try clear hfz25_7
      try clear hfz25_8
      try clear hfz25_9
      try clear hfz26_0
      try clear hfz26_1
      try clear hfz29_0
      try clear hfz29_1
      try clear hfz29_10
      try clear hfz29_2
      try clear hfz29_3
      try clear hfz29_4
      try clear hfz29_5
      try clear hfz29_6
      try clear hfz29_7
      try clear hfz29_8
      try clear hfz29_9
      try clear hfz30_0
      try clear hfz30_1
      try clear hfz32_0
      try clear hfz32_1
      try clear hfz32_10
      try clear hfz32_2
      try clear hfz32_3
      try clear hfz32_4
      try clear hfz32_5
      try clear hfz32_6
      try clear hfz32_7
      try clear hfz32_8
      try clear hfz32_9
      try clear hfz33_0
      try clear hfz33_1
      try clear hfz35_0
      try clear hfz35_1
      try clear hfz35_10
      try clear hfz35_2
      try clear hfz35_3
      try clear hfz35_4
      try clear hfz35_5
      try clear hfz35_6
      try clear hfz35_7
      try clear hfz35_8
      try clear hfz35_9
      try clear hfz6_0
      try clear hfz6_1
      try clear hfz8_0
      try clear hfz8_1
      try clear hx172_0
      try clear hx172_1
      try clear hx172_10
      try clear hx172_2
      try clear hx172_3
      try clear hx172_4
      try clear hx172_5
      try clear hx172_6
      try clear hx172_7
      try clear hx172_8
      try clear hx172_9
      try clear p172
      try clear p2
      try clear q172
      obtain ⟨kq, x52_11, rfl, HA, HJ11, BK170, BK173, HB⟩ := hcut
      cases kq with
      | zero => exact absurd HA.out (by simp [spec_RootPort.j2])
      | succ kj11 =>
       have H := HA.out
       clear HA
       simp only [spec_RootPort.j2] at H
       by_cases c36 : x52_11 = true
       case pos =>
        subst c36
        have H1 : (spec_RootPort.l0 kj11 x4_1 (wrap64 (x5_1 + 1)) a0_0 l0_1) = some (r1, r2) := by rw [if_pos rfl] at H; exact H
        clear H
        have H := H1
        clear H1
        have H' := aM H
        clear H
        go_wp2
        go_roundg kj11
        case measure => have := HK1.out; have := HJ2.out; have := HJ11.out; omega
        case rel => (try rw [← Nbq17.out]); exact ⟨(x4_1), (wrap64 (x5_1 + 1)), (by first | rfl | (simp; done) | (simp [*]; done)), (by first | rfl | (simp; done) | (simp [*]; done)), H', ⟨by have := HK1.out; have := HJ2.out; have := HJ11.out; omega⟩, ⟨by (with_reducible repeat (first | refine blk_drewN ?_ _ | refine blk_drew ?_ | refine blk_alloc ?_ _)); exact BK170.out⟩, ⟨by repeat (first | (with_reducible first | exact HB.out | apply below_alloc | apply pw_below_drewN | apply below_drew1 | refine below_set ?_ GE170.out | refine below_set ?_ GE173.out) | exact HB.out)⟩⟩
       replace c36 := Bool.eq_false_iff.mpr c36
       subst c36
       have H1 : (if x4_1 < 0 then (spec_RootPort.l0 kj11 x5_1 (wrap64 (x5_1 + 1)) a0_0 l0_1) else (if 0 ≤ x4_1 then (if x4_1 < (l0_1.length : Int) then ((spec_Better.f ((rd_T109 l0_1 x5_1).f2.f0) ((rd_T109 l0_1 x5_1).f2.f1) ((rd_T109 l0_1 x5_1).f2.f2) ((rd_T109 l0_1 x5_1).f2.f3) ((rd_T109 l0_1 x4_1).f2.f0) ((rd_T109 l0_1 x4_1).f2.f1) ((rd_T109 l0_1 x4_1).f2.f2) ((rd_T109 l0_1 x4_1).f2.f3)).bind fun t175 => (if t175 = true then (spec_RootPort.l0 kj11 x5_1 (wrap64 (x5_1 + 1)) a0_0 l0_1) else (spec_RootPort.l0 kj11 x4_1 (wrap64 (x5_1 + 1)) a0_0 l0_1))) else (none)) else (none))) = some (r1, r2) := by rw [if_neg (show ¬ (false = true) by decide)] at H; exact H
       clear H
       have H := H1
       clear H1
       by_cases c37 : x4_1 < 0
       case pos =>
        rw [if_pos c37] at H
        have c37b0 : decide (x4_1 < 0) = true := decide_eq_true c37
        clear c37
        have H' := aM H
        clear H
        try go_wp2
        have n0_ := aM (blk_drew BK170.out)
        have n1_ := aM (blk_drew BK173.out)
        have n2_ := aM (below_drew1 HB.out)
        clear BK170
        clear BK173
        clear HB
        have BK170 := n0_
        have BK173 := n1_
        have HB := n2_
        clear n0_ n1_ n2_
        refine start_ (n := 13) (S := fun w' => True) (ds := []) #[U,U,U,U,U,U,U,U,U,U,U,U,U] (by kernel_rfl) rfl rfl trivial (fun hHeld => ?_); refine with_tabW spec_RootPort.tab7 spec_RootPort.bits7 (fun HT_ HW_ => ?_)
        generalize wc.drew = w38 at BK170 BK173 HB hHeld ⊢
        refine pure_ (i := 0) (N := some 53) (v := ?_) (a' := ?_) #[Y,U,U,U,U,U,U,U,U,U,U,U,U] rfl rfl (any_of HT_.out (by kernel_rfl)) (fun _ _ _ h => h) (Or.inl ⟨by rfl, ?_⟩) ?_ ?_
        rotate_left
        ·intro w'
         go_simp
         with_reducible rfl
        rotate_left
        ·simp only [Act.put, sA, sZ, sS, i64_w, i32_w]
         rfl
        refine pure_ (i := 1) (N := some 54) (v := ?_) (a' := ?_) #[Y,Y,U,U,U,U,U,U,U,U,U,U,U] rfl rfl (any_of HT_.out (by kernel_rfl)) (fun _ _ _ h => h) (Or.inl ⟨by rfl, ?_⟩) ?_ ?_
        rotate_left
        ·intro w'
         go_simp
         with_reducible rfl
        rotate_left
        ·simp only [Act.put, sA, sZ, sS, i64_w, i32_w]
         rfl
        refine pure_ (i := 2) (N := some 55) (v := ?_) (a' := ?_) #[Y,Y,Y,U,U,U,U,U,U,U,U,U,U] rfl rfl (any_of HT_.out (by kernel_rfl)) (fun _ _ _ h => h) (Or.inl ⟨by rfl, ?_⟩) ?_ ?_
        rotate_left
        ·intro w'
         go_simp
         with_reducible rfl
        rotate_left
        ·simp only [Act.put, sA, sZ, sS, i64_w, i32_w]
         rfl
        refine pure_ (i := 3) (N := some 56) (v := undef) (a' := ?_) #[Y,Y,Y,Y,U,U,U,U,U,U,U,U,U] rfl rfl (any_of HT_.out (by kernel_rfl)) (fun _ _ _ h => h) (Or.inr ⟨by rfl, rfl⟩) ?_ ?_
        rotate_left
        ·simp only [Act.put, sA, sZ, sS, i64_w, i32_w]
         rfl
        refine pure_ (i := 4) (N := some 57) (v := undef) (a' := ?_) #[Y,Y,Y,Y,Y,U,U,U,U,U,U,U,U] rfl rfl (any_of HT_.out (by kernel_rfl)) (fun _ _ _ h => h) (Or.inr ⟨by rfl, rfl⟩) ?_ ?_
        rotate_left
        ·simp only [Act.put, sA, sZ, sS, i64_w, i32_w]
         rfl
        refine pure_ (i := 5) (N := some 58) (v := undef) (a' := ?_) #[Y,Y,Y,Y,Y,Y,U,U,U,U,U,U,U] rfl rfl (any_of HT_.out (by kernel_rfl)) (fun _ _ _ h => h) (Or.inr ⟨by rfl, rfl⟩) ?_ ?_
        rotate_left
        ·simp only [Act.put, sA, sZ, sS, i64_w, i32_w]
         rfl
        refine pure_ (i := 6) (N := some 59) (v := undef) (a' := ?_) #[Y,Y,Y,Y,Y,Y,Y,U,U,U,U,U,U] rfl rfl (any_of HT_.out (by kernel_rfl)) (fun _ _ _ h => h) (Or.inr ⟨by rfl, rfl⟩) ?_ ?_
        rotate_left
        ·simp only [Act.put, sA, sZ, sS, i64_w, i32_w]
         rfl
        refine pure_ (i := 7) (N := some 60) (v := undef) (a' := ?_) #[Y,Y,Y,Y,Y,Y,Y,Y,U,U,U,U,U] rfl rfl (any_of HT_.out (by kernel_rfl)) (fun _ _ _ h => h) (Or.inr ⟨by rfl, rfl⟩) ?_ ?_
        rotate_left
        ·simp only [Act.put, sA, sZ, sS, i64_w, i32_w]
         rfl
        refine pure_ (i := 8) (N := some 61) (v := undef) (a' := ?_) #[Y,Y,Y,Y,Y,Y,Y,Y,Y,U,U,U,U] rfl rfl (any_of HT_.out (by kernel_rfl)) (fun _ _ _ h => h) (Or.inr ⟨by rfl, rfl⟩) ?_ ?_
        rotate_left
        ·simp only [Act.put, sA, sZ, sS, i64_w, i32_w]
         rfl
        refine pure_ (i := 9) (N := some 62) (v := undef) (a' := ?_) #[Y,Y,Y,Y,Y,Y,Y,Y,Y,Y,U,U,U] rfl rfl (any_of HT_.out (by kernel_rfl)) (fun _ _ _ h => h) (Or.inr ⟨by rfl, rfl⟩) ?_ ?_
        rotate_left
        ·simp only [Act.put, sA, sZ, sS, i64_w, i32_w]
         rfl
        refine pure_ (i := 10) (N := some 63) (v := undef) (a' := ?_) #[Y,Y,Y,Y,Y,Y,Y,Y,Y,Y,Y,U,U] rfl rfl (any_of HT_.out (by kernel_rfl)) (fun _ _ _ h => h) (Or.inr ⟨by rfl, rfl⟩) ?_ ?_
        rotate_left
        ·simp only [Act.put, sA, sZ, sS, i64_w, i32_w]
         rfl
        refine pure_ (i := 11) (N := some 64) (v := undef) (a' := ?_) #[Y,Y,Y,Y,Y,Y,Y,Y,Y,Y,Y,Y,U] rfl rfl (any_of HT_.out (by kernel_rfl)) (fun _ _ _ h => h) (Or.inr ⟨by rfl, rfl⟩) ?_ ?_
        rotate_left
        ·simp only [Act.put, sA, sZ, sS, i64_w, i32_w]
         rfl
        refine pure_ (i := 12) (N := some 65) (v := ?_) (a' := ?_) #[Y,Y,Y,Y,Y,Y,Y,Y,Y,Y,Y,Y,Y] rfl rfl (any_of HT_.out (by kernel_rfl)) (fun _ _ _ h => h) (Or.inl ⟨by rfl, ?_⟩) ?_ ?_
        rotate_left
        ·intro w'
         go_simp
         with_reducible rfl
        rotate_left
        ·simp only [Act.put, sA, sZ, sS, i64_w, i32_w]
         rfl
        refine done_ (done_of HT_.out (by kernel_rfl)) ?_
        try go_wp2
        go_roundg kj11
        case measure => have := HK1.out; have := HJ2.out; have := HJ11.out; omega
        case rel => (try rw [← Nbq17.out]); exact ⟨(x5_1), (wrap64 (x5_1 + 1)), (by first | rfl | (simp; done) | (simp [*]; done)), (by first | rfl | (simp; done) | (simp [*]; done)), H', ⟨by have := HK1.out; have := HJ2.out; have := HJ11.out; omega⟩, ⟨by (with_reducible repeat (first | refine blk_drewN ?_ _ | refine blk_drew ?_ | refine blk_alloc ?_ _)); exact BK170.out⟩, ⟨by repeat (first | (with_reducible first | exact HB.out | apply below_alloc | apply pw_below_drewN | apply below_drew1 | refine below_set ?_ GE170.out | refine below_set ?_ GE173.out) | exact HB.out)⟩⟩
       rw [if_neg c37] at H
       have c37b0 : decide (x4_1 < 0) = false := decide_eq_false c37
       clear c37
       by_cases c39 : 0 ≤ x4_1
       case neg =>
        rw [if_neg c39] at H
        exact absurd H (by simp)
       rw [if_pos c39] at H
       have c39b0 : decide (0 ≤ x4_1) = true := decide_eq_true c39
       clear c39
       by_cases c40 : x4_1 < (l0_1.length : Int)
       case neg =>
        rw [if_neg c40] at H
        exact absurd H (by simp)
       rw [if_pos c40] at H
       have c40b0 : decide (x4_1 < (l0_1.length : Int)) = true := decide_eq_true c40
       clear c40
       replace H := Option.bind_eq_some_iff.mp H
       obtain ⟨t175, A410, H⟩ := H
       replace H : (if t175 = true then (spec_RootPort.l0 kj11 x5_1 (wrap64 (x5_1 + 1)) a0_0 l0_1) else (spec_RootPort.l0 kj11 x4_1 (wrap64 (x5_1 + 1)) a0_0 l0_1)) = some (r1, r2) := H
       have A41 := aM A410
       clear A410
       by_cases c42 : t175 = true
       case pos =>
        subst c42
        have H1 : (spec_RootPort.l0 kj11 x5_1 (wrap64 (x5_1 + 1)) a0_0 l0_1) = some (r1, r2) := by rw [if_pos rfl] at H; exact H
        clear H
        have H := H1
        clear H1
        have H' := aM H
        clear H
        try go_wp2
        have n0_ := aM (blk_drew BK170.out)
        have n1_ := aM (blk_drew BK173.out)
        have n2_ := aM (below_drew1 HB.out)
        clear BK170
        clear BK173
        clear HB
        have BK170 := n0_
        have BK173 := n1_
        have HB := n2_
        clear n0_ n1_ n2_
        have p174 : 0 ≤ (x4_1 : Int) := of_decide_eq_true (by first | (with_reducible assumption) | assumption)
        have q174 : x4_1 < (l0_1.length : Int) := of_decide_eq_true (by first | (with_reducible assumption) | assumption)
        obtain ⟨ad174, e174, hx174_0, hx174_1, hx174_2, hx174_3, hx174_4, hx174_5, hx174_6, hx174_7, hx174_8, hx174_9, hx174_10⟩ := at_T109 HR0_1.out x4_1 p174 q174
        have hw174_10 := hx174_10
        have hw174_9 := hx174_9
        have hw174_8 := hx174_8
        have hw174_7 := hx174_7
        have hw174_6 := hx174_6
        have hw174_5 := hx174_5
        have hw174_4 := hx174_4
        have hw174_3 := hx174_3
        have hw174_2 := hx174_2
        have hw174_1 := hx174_1
        have hw174_0 := hx174_0
        obtain rfl : ad172 = ad174 := (by injection e174)
        replace hx174_0 := (HB.out.cell (World.block_lt_of_cell? w _ hx174_0)).trans hx174_0
        replace hx174_1 := (HB.out.cell (World.block_lt_of_cell? w _ hx174_1)).trans hx174_1
        replace hx174_2 := (HB.out.cell (World.block_lt_of_cell? w _ hx174_2)).trans hx174_2
        replace hx174_3 := (HB.out.cell (World.block_lt_of_cell? w _ hx174_3)).trans hx174_3
        replace hx174_4 := (HB.out.cell (World.block_lt_of_cell? w _ hx174_4)).trans hx174_4
        replace hx174_5 := (HB.out.cell (World.block_lt_of_cell? w _ hx174_5)).trans hx174_5
        replace hx174_6 := (HB.out.cell (World.block_lt_of_cell? w _ hx174_6)).trans hx174_6
        replace hx174_7 := (HB.out.cell (World.block_lt_of_cell? w _ hx174_7)).trans hx174_7
        replace hx174_8 := (HB.out.cell (World.block_lt_of_cell? w _ hx174_8)).trans hx174_8
        replace hx174_9 := (HB.out.cell (World.block_lt_of_cell? w _ hx174_9)).trans hx174_9
        replace hx174_10 := (HB.out.cell (World.block_lt_of_cell? w _ hx174_10)).trans hx174_10
        replace p174 := eq_true p174
        replace q174 := eq_true q174
        refine start_ (n := 13) (S := fun w' => w'.cell? ⟨gb173, 0, none⟩ = some (.bool ((rd_T109 l0_1 x5_1).f0)) ∧ w'.cell? ⟨gb173, 1, none⟩ = some (.bool ((rd_T109 l0_1 x5_1).f1)) ∧ w'.cell? ⟨gb173, 2, none⟩ = some (.int .i64 ((rd_T109 l0_1 x5_1).f2.f0)) ∧ w'.cell? ⟨gb173, 3, none⟩ = some (.int .i64 ((rd_T109 l0_1 x5_1).f2.f1)) ∧ w'.cell? ⟨gb173, 4, none⟩ = some (.int .i64 ((rd_T109 l0_1 x5_1).f2.f2)) ∧ w'.cell? ⟨gb173, 5, none⟩ = some (.int .i64 ((rd_T109 l0_1 x5_1).f2.f3)) ∧ w'.cell? ⟨gb173, 6, none⟩ = some (.int .i64 ((rd_T109 l0_1 x5_1).f3)) ∧ w'.cell? ⟨gb173, 7, none⟩ = some (.int .i64 ((rd_T109 l0_1 x5_1).f4)) ∧ w'.cell? ⟨gb173, 8, none⟩ = some (.int .i64 ((rd_T109 l0_1 x5_1).f5)) ∧ w'.cell? ⟨gb173, 9, none⟩ = some (.int .i64 ((rd_T109 l0_1 x5_1).f6)) ∧ w'.cell? ⟨gb173, 10, none⟩ = some (.bool ((rd_T109 l0_1 x5_1).f7)) ∧ w'.cell? ⟨gb170, 0, none⟩ = some (.int .i64 a0_0) ∧ w'.cell? ⟨gb170, 1, none⟩ = some (.slice (some ad172) l0_1.length c0_1) ∧ w'.cell? (ad172.add ((x4_1).toNat * 11)) = some (.bool ((rd_T109 l0_1 x4_1).f0)) ∧ w'.cell? ⟨(ad172.add ((x4_1).toNat * 11)).block, (ad172.add ((x4_1).toNat * 11)).off + 1, none⟩ = some (.bool ((rd_T109 l0_1 x4_1).f1)) ∧ w'.cell? ⟨(ad172.add ((x4_1).toNat * 11)).block, (ad172.add ((x4_1).toNat * 11)).off + 2, none⟩ = some (.int .i64 ((rd_T109 l0_1 x4_1).f2.f0)) ∧ w'.cell? ⟨(ad172.add ((x4_1).toNat * 11)).block, (ad172.add ((x4_1).toNat * 11)).off + 3, none⟩ = some (.int .i64 ((rd_T109 l0_1 x4_1).f2.f1)) ∧ w'.cell? ⟨(ad172.add ((x4_1).toNat * 11)).block, (ad172.add ((x4_1).toNat * 11)).off + 4, none⟩ = some (.int .i64 ((rd_T109 l0_1 x4_1).f2.f2)) ∧ w'.cell? ⟨(ad172.add ((x4_1).toNat * 11)).block, (ad172.add ((x4_1).toNat * 11)).off + 5, none⟩ = some (.int .i64 ((rd_T109 l0_1 x4_1).f2.f3)) ∧ w'.cell? ⟨(ad172.add ((x4_1).toNat * 11)).block, (ad172.add ((x4_1).toNat * 11)).off + 6, none⟩ = some (.int .i64 ((rd_T109 l0_1 x4_1).f3)) ∧ w'.cell? ⟨(ad172.add ((x4_1).toNat * 11)).block, (ad172.add ((x4_1).toNat * 11)).off + 7, none⟩ = some (.int .i64 ((rd_T109 l0_1 x4_1).f4)) ∧ w'.cell? ⟨(ad172.add ((x4_1).toNat * 11)).block, (ad172.add ((x4_1).toNat * 11)).off + 8, none⟩ = some (.int .i64 ((rd_T109 l0_1 x4_1).f5)) ∧ w'.cell? ⟨(ad172.add ((x4_1).toNat * 11)).block, (ad172.add ((x4_1).toNat * 11)).off + 9, none⟩ = some (.int .i64 ((rd_T109 l0_1 x4_1).f6)) ∧ w'.cell? ⟨(ad172.add ((x4_1).toNat * 11)).block, (ad172.add ((x4_1).toNat * 11)).off + 10, none⟩ = some (.bool ((rd_T109 l0_1 x4_1).f7))) (ds := []) #[U,U,U,U,U,U,U,U,U,U,U,U,U] (by kernel_rfl) rfl rfl ⟨(blk_cell BK173.out 0).trans rfl, (blk_cell BK173.out 1).trans rfl, (blk_cell BK173.out 2).trans rfl, (blk_cell BK173.out 3).trans rfl, (blk_cell BK173.out 4).trans rfl, (blk_cell BK173.out 5).trans rfl, (blk_cell BK173.out 6).trans rfl, (blk_cell BK173.out 7).trans rfl, (blk_cell BK173.out 8).trans rfl, (blk_cell BK173.out 9).trans rfl, (blk_cell BK173.out 10).trans rfl, (blk_cell BK170.out 0).trans rfl, (blk_cell BK170.out 1).trans rfl, ((HB.out.cell (World.block_lt_of_cell? w _ hw174_0)).trans hw174_0), ((HB.out.cell (World.block_lt_of_cell? w _ hw174_1)).trans hw174_1), ((HB.out.cell (World.block_lt_of_cell? w _ hw174_2)).trans hw174_2), ((HB.out.cell (World.block_lt_of_cell? w _ hw174_3)).trans hw174_3), ((HB.out.cell (World.block_lt_of_cell? w _ hw174_4)).trans hw174_4), ((HB.out.cell (World.block_lt_of_cell? w _ hw174_5)).trans hw174_5), ((HB.out.cell (World.block_lt_of_cell? w _ hw174_6)).trans hw174_6), ((HB.out.cell (World.block_lt_of_cell? w _ hw174_7)).trans hw174_7), ((HB.out.cell (World.block_lt_of_cell? w _ hw174_8)).trans hw174_8), ((HB.out.cell (World.block_lt_of_cell? w _ hw174_9)).trans hw174_9), ((HB.out.cell (World.block_lt_of_cell? w _ hw174_10)).trans hw174_10)⟩ (fun hHeld => ?_); refine with_tabW spec_RootPort.tab7 spec_RootPort.bits7 (fun HT_ HW_ => ?_)
        generalize wc.drew = w43 at BK170 BK173 HB hx174_0 hx174_1 hx174_10 hx174_2 hx174_3 hx174_4 hx174_5 hx174_6 hx174_7 hx174_8 hx174_9 hHeld ⊢
        refine pure_ (i := 0) (N := some 53) (v := ?_) (a' := ?_) #[Y,U,U,U,U,U,U,U,U,U,U,U,U] rfl rfl (any_of HT_.out (by kernel_rfl)) (fun _ _ _ h => h) (Or.inl ⟨by rfl, ?_⟩) ?_ ?_
        rotate_left
        ·intro w'
         go_simp
         with_reducible rfl
        rotate_left
        ·simp only [Act.put, sA, sZ, sS, i64_w, i32_w]
         rfl
        refine pure_ (i := 1) (N := some 54) (v := ?_) (a' := ?_) #[Y,Y,U,U,U,U,U,U,U,U,U,U,U] rfl rfl (any_of HT_.out (by kernel_rfl)) (fun _ _ _ h => h) (Or.inl ⟨by rfl, ?_⟩) ?_ ?_
        rotate_left
        ·intro w'
         go_simp
         with_reducible rfl
        rotate_left
        ·simp only [Act.put, sA, sZ, sS, i64_w, i32_w]
         rfl
        refine pure_ (i := 2) (N := some 55) (v := ?_) (a' := ?_) #[Y,Y,Y,U,U,U,U,U,U,U,U,U,U] rfl rfl (any_of HT_.out (by kernel_rfl)) (fun _ _ _ h => h) (Or.inl ⟨by rfl, ?_⟩) ?_ ?_
        rotate_left
        ·intro w'
         go_simp
         with_reducible rfl
        rotate_left
        ·simp only [Act.put, sA, sZ, sS, i64_w, i32_w]
         rfl
        refine pure_ (i := 3) (N := some 56) (v := ?_) (a' := ?_) #[Y,Y,Y,Y,U,U,U,U,U,U,U,U,U] rfl rfl (any_of HT_.out (by kernel_rfl)) (fun _ _ _ h => h) (Or.inl ⟨by rfl, ?_⟩) ?_ ?_
        rotate_left
        ·intro w'
         go_simp
         with_reducible rfl
        rotate_left
        ·simp only [Act.put, sA, sZ, sS, i64_w, i32_w]
         rfl
        refine pure_ (i := 5) (N := some 58) (v := ?_) (a' := ?_) #[Y,Y,Y,Y,U,Y,U,U,U,U,U,U,U] rfl rfl (any_of HT_.out (by kernel_rfl)) (fun _ _ _ h => h) (Or.inl ⟨by rfl, ?_⟩) ?_ ?_
        rotate_left
        ·intro w'
         go_simp
         with_reducible rfl
        rotate_left
        ·simp only [Act.put, sA, sZ, sS, i64_w, i32_w]
         rfl
        refine pure_ (i := 7) (N := some 60) (v := ?_) (a' := ?_) #[Y,Y,Y,Y,U,Y,U,Y,U,U,U,U,U] rfl rfl (any_of HT_.out (by kernel_rfl)) (fun _ _ _ h => h) (Or.inl ⟨by rfl, ?_⟩) ?_ ?_
        rotate_left
        ·intro w'
         go_simp
         with_reducible rfl
        rotate_left
        ·simp only [Act.put, sA, sZ, sS, i64_w, i32_w]
         rfl
        refine take_ (i := 4) (N := some 57) (v := ?_) (a' := ?_) #[Y,Y,Y,Y,Y,Y,U,Y,U,U,U,U,U] rfl rfl (take_ofW HT_.out HW_.out (by kernel_rfl)) (fun _ _ _ h => h) (Or.inl ⟨by rfl, ?_⟩) hHeld ?_ ?_
        rotate_left
        ·rintro w' ⟨s0, s1, s2, s3, s4, s5, s6, s7, s8, s9, s10, s11, s12, s13, s14, s15, s16, s17, s18, s19, s20, s21, s22, s23⟩
         go_simp
         with_reducible rfl
        rotate_left
        ·simp only [Act.put, sA, sZ, sS, i64_w, i32_w]
         rfl
        refine take_ (i := 6) (N := some 59) (v := ?_) (a' := ?_) #[Y,Y,Y,Y,Y,Y,Y,Y,U,U,U,U,U] rfl rfl (take_ofW HT_.out HW_.out (by kernel_rfl)) (fun _ _ _ h => h) (Or.inl ⟨by rfl, ?_⟩) hHeld ?_ ?_
        rotate_left
        ·rintro w' ⟨s0, s1, s2, s3, s4, s5, s6, s7, s8, s9, s10, s11, s12, s13, s14, s15, s16, s17, s18, s19, s20, s21, s22, s23⟩
         go_simp
         with_reducible rfl
        rotate_left
        ·simp only [Act.put, sA, sZ, sS, i64_w, i32_w]
         rfl
        refine pure_ (i := 8) (N := some 61) (v := ?_) (a' := ?_) #[Y,Y,Y,Y,Y,Y,Y,Y,Y,U,U,U,U] rfl rfl (any_of HT_.out (by kernel_rfl)) (fun _ _ _ h => h) (Or.inl ⟨by rfl, ?_⟩) ?_ ?_
        rotate_left
        ·intro w'
         go_simp
         with_reducible rfl
        rotate_left
        ·simp only [Act.put, sA, sZ, sS, i64_w, i32_w]
         rfl
        refine pure_ (i := 9) (N := some 62) (v := ?_) (a' := ?_) #[Y,Y,Y,Y,Y,Y,Y,Y,Y,Y,U,U,U] rfl rfl (any_of HT_.out (by kernel_rfl)) (fun _ _ _ h => h) (Or.inl ⟨by rfl, ?_⟩) ?_ ?_
        rotate_left
        ·intro w'
         go_simp
         with_reducible rfl
        rotate_left
        ·simp only [Act.put, sA, sZ, sS, i64_w, i32_w]
         rfl
        refine take_ (i := 10) (N := some 63) (v := ?_) (a' := ?_) #[Y,Y,Y,Y,Y,Y,Y,Y,Y,Y,Y,U,U] rfl rfl (take_ofW HT_.out HW_.out (by kernel_rfl)) (fun _ _ _ h => h) (Or.inl ⟨by rfl, ?_⟩) hHeld ?_ ?_
        rotate_left
        ·rintro w' ⟨s0, s1, s2, s3, s4, s5, s6, s7, s8, s9, s10, s11, s12, s13, s14, s15, s16, s17, s18, s19, s20, s21, s22, s23⟩
         go_simp
         with_reducible rfl
        rotate_left
        ·simp only [Act.put, sA, sZ, sS, i64_w, i32_w]
         rfl
        refine one_ (i := 11) (N := some 64) #[Y,Y,Y,Y,Y,Y,Y,Y,Y,Y,Y,Y,U] rfl rfl (one_of HT_.out (by kernel_rfl)) (by decide) (fun K hK => ?_)
        refine goes_ Try.func93 (by kernel_rfl) rfl #[.agg #[.int .i64 ((rd_T109 l0_1 x5_1).f2.f0), .int .i64 ((rd_T109 l0_1 x5_1).f2.f1), .int .i64 ((rd_T109 l0_1 x5_1).f2.f2), .int .i64 ((rd_T109 l0_1 x5_1).f2.f3)], .agg #[.int .i64 ((rd_T109 l0_1 x4_1).f2.f0), .int .i64 ((rd_T109 l0_1 x4_1).f2.f1), .int .i64 ((rd_T109 l0_1 x4_1).f2.f2), .int .i64 ((rd_T109 l0_1 x4_1).f2.f3)]] (by rfl) rfl rfl (by (try simp only [List.map_toArray, List.map_cons, List.map_nil]); first | done | rfl | (simp only [List.length_drop, List.length_take]; rfl)) ?_
        with_reducible refine (spec_Better.calls ((rd_T109 l0_1 x5_1).f2.f0) ((rd_T109 l0_1 x5_1).f2.f1) ((rd_T109 l0_1 x5_1).f2.f2) ((rd_T109 l0_1 x5_1).f2.f3) ((rd_T109 l0_1 x4_1).f2.f0) ((rd_T109 l0_1 x4_1).f2.f1) ((rd_T109 l0_1 x4_1).f2.f2) ((rd_T109 l0_1 x4_1).f2.f3) true _ A41.out).mono ?_
        rintro e w44 ⟨rfl, hb⟩
        refine ⟨_, rfl, ?_⟩
        have n0_ := aM (blk_below (g := gb170) (o := .cells #[.int .i64 a0_0, .slice (some ad172) l0_1.length c0_1] 66 (0, 0)) (by (with_reducible repeat (first | refine blk_drewN ?_ _ | refine blk_drew ?_ | refine blk_alloc ?_ _)); exact BK170.out) hb)
        have n1_ := aM (blk_below (g := gb173) (o := .cells #[.bool ((rd_T109 l0_1 x5_1).f0), .bool ((rd_T109 l0_1 x5_1).f1), .int .i64 ((rd_T109 l0_1 x5_1).f2.f0), .int .i64 ((rd_T109 l0_1 x5_1).f2.f1), .int .i64 ((rd_T109 l0_1 x5_1).f2.f2), .int .i64 ((rd_T109 l0_1 x5_1).f2.f3), .int .i64 ((rd_T109 l0_1 x5_1).f3), .int .i64 ((rd_T109 l0_1 x5_1).f4), .int .i64 ((rd_T109 l0_1 x5_1).f5), .int .i64 ((rd_T109 l0_1 x5_1).f6), .bool ((rd_T109 l0_1 x5_1).f7)] 109 (0, 0)) (by (with_reducible repeat (first | refine blk_drewN ?_ _ | refine blk_drew ?_ | refine blk_alloc ?_ _)); exact BK173.out) hb)
        have n2_ := aM (below_step (by repeat (first | (with_reducible first | exact HB.out | apply below_alloc | apply pw_below_drewN | apply below_drew1 | refine below_set ?_ GE170.out | refine below_set ?_ GE173.out) | exact HB.out)) hb)
        clear BK170
        clear BK173
        clear HB
        have BK170 := n0_
        have BK173 := n1_
        have HB := n2_
        clear n0_ n1_ n2_
        (try clear hb)
        (try clear hb2)
        (try clear hk)
        (try clear hi)
        refine hK.out _ _ ⟨(blk_cell BK173.out 0).trans rfl, (blk_cell BK173.out 1).trans rfl, (blk_cell BK173.out 2).trans rfl, (blk_cell BK173.out 3).trans rfl, (blk_cell BK173.out 4).trans rfl, (blk_cell BK173.out 5).trans rfl, (blk_cell BK173.out 6).trans rfl, (blk_cell BK173.out 7).trans rfl, (blk_cell BK173.out 8).trans rfl, (blk_cell BK173.out 9).trans rfl, (blk_cell BK173.out 10).trans rfl, (blk_cell BK170.out 0).trans rfl, (blk_cell BK170.out 1).trans rfl, ((HB.out.cell (World.block_lt_of_cell? w _ hw174_0)).trans hw174_0), ((HB.out.cell (World.block_lt_of_cell? w _ hw174_1)).trans hw174_1), ((HB.out.cell (World.block_lt_of_cell? w _ hw174_2)).trans hw174_2), ((HB.out.cell (World.block_lt_of_cell? w _ hw174_3)).trans hw174_3), ((HB.out.cell (World.block_lt_of_cell? w _ hw174_4)).trans hw174_4), ((HB.out.cell (World.block_lt_of_cell? w _ hw174_5)).trans hw174_5), ((HB.out.cell (World.block_lt_of_cell? w _ hw174_6)).trans hw174_6), ((HB.out.cell (World.block_lt_of_cell? w _ hw174_7)).trans hw174_7), ((HB.out.cell (World.block_lt_of_cell? w _ hw174_8)).trans hw174_8), ((HB.out.cell (World.block_lt_of_cell? w _ hw174_9)).trans hw174_9), ((HB.out.cell (World.block_lt_of_cell? w _ hw174_10)).trans hw174_10)⟩ (fun hHeld => ?_)
        clear hK K
        refine norm_ (a' := ?_) ?_ ?_
        rotate_left
        ·show Act.put _ (some 64) _ = _
         simp only [Act.put, sA, sZ, sS, i64_w, i32_w]
         rfl
        refine pure_ (i := 12) (N := some 65) (v := ?_) (a' := ?_) #[Y,Y,Y,Y,Y,Y,Y,Y,Y,Y,Y,Y,Y] rfl rfl (any_of HT_.out (by kernel_rfl)) (fun _ _ _ h => h) (Or.inl ⟨by rfl, ?_⟩) ?_ ?_
        rotate_left
        ·intro w'
         go_simp
         with_reducible rfl
        rotate_left
        ·simp only [Act.put, sA, sZ, sS, i64_w, i32_w]
         rfl
        refine done_ (done_of HT_.out (by kernel_rfl)) ?_
        try go_wp2
        go_roundg kj11
        case measure => have := HK1.out; have := HJ2.out; have := HJ11.out; omega
        case rel => (try rw [← Nbq17.out]); exact ⟨(x5_1), (wrap64 (x5_1 + 1)), (by first | rfl | (simp; done) | (simp [*]; done)), (by first | rfl | (simp; done) | (simp [*]; done)), H', ⟨by have := HK1.out; have := HJ2.out; have := HJ11.out; omega⟩, ⟨by (with_reducible repeat (first | refine blk_drewN ?_ _ | refine blk_drew ?_ | refine blk_alloc ?_ _)); exact BK170.out⟩, ⟨by repeat (first | (with_reducible first | exact HB.out | apply below_alloc | apply pw_below_drewN | apply below_drew1 | refine below_set ?_ GE170.out | refine below_set ?_ GE173.out) | exact HB.out)⟩⟩
       replace c42 := Bool.eq_false_iff.mpr c42
       subst c42
       have H1 : (spec_RootPort.l0 kj11 x4_1 (wrap64 (x5_1 + 1)) a0_0 l0_1) = some (r1, r2) := by rw [if_neg (show ¬ (false = true) by decide)] at H; exact H
       clear H
       have H := H1
       clear H1
       have H' := aM H
       clear H
       try go_wp2
       have n0_ := aM (blk_drew BK170.out)
       have n1_ := aM (blk_drew BK173.out)
       have n2_ := aM (below_drew1 HB.out)
       clear BK170
       clear BK173
       clear HB
       have BK170 := n0_
       have BK173 := n1_
       have HB := n2_
       clear n0_ n1_ n2_
       have p174 : 0 ≤ (x4_1 : Int) := of_decide_eq_true (by first | (with_reducible assumption) | assumption)
       have q174 : x4_1 < (l0_1.length : Int) := of_decide_eq_true (by first | (with_reducible assumption) | assumption)
       obtain ⟨ad174, e174, hx174_0, hx174_1, hx174_2, hx174_3, hx174_4, hx174_5, hx174_6, hx174_7, hx174_8, hx174_9, hx174_10⟩ := at_T109 HR0_1.out x4_1 p174 q174
       have hw174_10 := hx174_10
       have hw174_9 := hx174_9
       have hw174_8 := hx174_8
       have hw174_7 := hx174_7
       have hw174_6 := hx174_6
       have hw174_5 := hx174_5
       have hw174_4 := hx174_4
       have hw174_3 := hx174_3
       have hw174_2 := hx174_2
       have hw174_1 := hx174_1
       have hw174_0 := hx174_0
       obtain rfl : ad172 = ad174 := (by injection e174)
       replace hx174_0 := (HB.out.cell (World.block_lt_of_cell? w _ hx174_0)).trans hx174_0
       replace hx174_1 := (HB.out.cell (World.block_lt_of_cell? w _ hx174_1)).trans hx174_1
       replace hx174_2 := (HB.out.cell (World.block_lt_of_cell? w _ hx174_2)).trans hx174_2
       replace hx174_3 := (HB.out.cell (World.block_lt_of_cell? w _ hx174_3)).trans hx174_3
       replace hx174_4 := (HB.out.cell (World.block_lt_of_cell? w _ hx174_4)).trans hx174_4
       replace hx174_5 := (HB.out.cell (World.block_lt_of_cell? w _ hx174_5)).trans hx174_5
       replace hx174_6 := (HB.out.cell (World.block_lt_of_cell? w _ hx174_6)).trans hx174_6
       replace hx174_7 := (HB.out.cell (World.block_lt_of_cell? w _ hx174_7)).trans hx174_7
       replace hx174_8 := (HB.out.cell (World.block_lt_of_cell? w _ hx174_8)).trans hx174_8
       replace hx174_9 := (HB.out.cell (World.block_lt_of_cell? w _ hx174_9)).trans hx174_9
       replace hx174_10 := (HB.out.cell (World.block_lt_of_cell? w _ hx174_10)).trans hx174_10
       replace p174 := eq_true p174
       replace q174 := eq_true q174
       refine start_ (n := 13) (S := fun w' => w'.cell? ⟨gb173, 0, none⟩ = some (.bool ((rd_T109 l0_1 x5_1).f0)) ∧ w'.cell? ⟨gb173, 1, none⟩ = some (.bool ((rd_T109 l0_1 x5_1).f1)) ∧ w'.cell? ⟨gb173, 2, none⟩ = some (.int .i64 ((rd_T109 l0_1 x5_1).f2.f0)) ∧ w'.cell? ⟨gb173, 3, none⟩ = some (.int .i64 ((rd_T109 l0_1 x5_1).f2.f1)) ∧ w'.cell? ⟨gb173, 4, none⟩ = some (.int .i64 ((rd_T109 l0_1 x5_1).f2.f2)) ∧ w'.cell? ⟨gb173, 5, none⟩ = some (.int .i64 ((rd_T109 l0_1 x5_1).f2.f3)) ∧ w'.cell? ⟨gb173, 6, none⟩ = some (.int .i64 ((rd_T109 l0_1 x5_1).f3)) ∧ w'.cell? ⟨gb173, 7, none⟩ = some (.int .i64 ((rd_T109 l0_1 x5_1).f4)) ∧ w'.cell? ⟨gb173, 8, none⟩ = some (.int .i64 ((rd_T109 l0_1 x5_1).f5)) ∧ w'.cell? ⟨gb173, 9, none⟩ = some (.int .i64 ((rd_T109 l0_1 x5_1).f6)) ∧ w'.cell? ⟨gb173, 10, none⟩ = some (.bool ((rd_T109 l0_1 x5_1).f7)) ∧ w'.cell? ⟨gb170, 0, none⟩ = some (.int .i64 a0_0) ∧ w'.cell? ⟨gb170, 1, none⟩ = some (.slice (some ad172) l0_1.length c0_1) ∧ w'.cell? (ad172.add ((x4_1).toNat * 11)) = some (.bool ((rd_T109 l0_1 x4_1).f0)) ∧ w'.cell? ⟨(ad172.add ((x4_1).toNat * 11)).block, (ad172.add ((x4_1).toNat * 11)).off + 1, none⟩ = some (.bool ((rd_T109 l0_1 x4_1).f1)) ∧ w'.cell? ⟨(ad172.add ((x4_1).toNat * 11)).block, (ad172.add ((x4_1).toNat * 11)).off + 2, none⟩ = some (.int .i64 ((rd_T109 l0_1 x4_1).f2.f0)) ∧ w'.cell? ⟨(ad172.add ((x4_1).toNat * 11)).block, (ad172.add ((x4_1).toNat * 11)).off + 3, none⟩ = some (.int .i64 ((rd_T109 l0_1 x4_1).f2.f1)) ∧ w'.cell? ⟨(ad172.add ((x4_1).toNat * 11)).block, (ad172.add ((x4_1).toNat * 11)).off + 4, none⟩ = some (.int .i64 ((rd_T109 l0_1 x4_1).f2.f2)) ∧ w'.cell? ⟨(ad172.add ((x4_1).toNat * 11)).block, (ad172.add ((x4_1).toNat * 11)).off + 5, none⟩ = some (.int .i64 ((rd_T109 l0_1 x4_1).f2.f3)) ∧ w'.cell? ⟨(ad172.add ((x4_1).toNat * 11)).block, (ad172.add ((x4_1).toNat * 11)).off + 6, none⟩ = some (.int .i64 ((rd_T109 l0_1 x4_1).f3)) ∧ w'.cell? ⟨(ad172.add ((x4_1).toNat * 11)).block, (ad172.add ((x4_1).toNat * 11)).off + 7, none⟩ = some (.int .i64 ((rd_T109 l0_1 x4_1).f4)) ∧ w'.cell? ⟨(ad172.add ((x4_1).toNat * 11)).block, (ad172.add ((x4_1).toNat * 11)).off + 8, none⟩ = some (.int .i64 ((rd_T109 l0_1 x4_1).f5)) ∧ w'.cell? ⟨(ad172.add ((x4_1).toNat * 11)).block, (ad172.add ((x4_1).toNat * 11)).off + 9, none⟩ = some (.int .i64 ((rd_T109 l0_1 x4_1).f6)) ∧ w'.cell? ⟨(ad172.add ((x4_1).toNat * 11)).block, (ad172.add ((x4_1).toNat * 11)).off + 10, none⟩ = some (.bool ((rd_T109 l0_1 x4_1).f7))) (ds := []) #[U,U,U,U,U,U,U,U,U,U,U,U,U] (by kernel_rfl) rfl rfl ⟨(blk_cell BK173.out 0).trans rfl, (blk_cell BK173.out 1).trans rfl, (blk_cell BK173.out 2).trans rfl, (blk_cell BK173.out 3).trans rfl, (blk_cell BK173.out 4).trans rfl, (blk_cell BK173.out 5).trans rfl, (blk_cell BK173.out 6).trans rfl, (blk_cell BK173.out 7).trans rfl, (blk_cell BK173.out 8).trans rfl, (blk_cell BK173.out 9).trans rfl, (blk_cell BK173.out 10).trans rfl, (blk_cell BK170.out 0).trans rfl, (blk_cell BK170.out 1).trans rfl, ((HB.out.cell (World.block_lt_of_cell? w _ hw174_0)).trans hw174_0), ((HB.out.cell (World.block_lt_of_cell? w _ hw174_1)).trans hw174_1), ((HB.out.cell (World.block_lt_of_cell? w _ hw174_2)).trans hw174_2), ((HB.out.cell (World.block_lt_of_cell? w _ hw174_3)).trans hw174_3), ((HB.out.cell (World.block_lt_of_cell? w _ hw174_4)).trans hw174_4), ((HB.out.cell (World.block_lt_of_cell? w _ hw174_5)).trans hw174_5), ((HB.out.cell (World.block_lt_of_cell? w _ hw174_6)).trans hw174_6), ((HB.out.cell (World.block_lt_of_cell? w _ hw174_7)).trans hw174_7), ((HB.out.cell (World.block_lt_of_cell? w _ hw174_8)).trans hw174_8), ((HB.out.cell (World.block_lt_of_cell? w _ hw174_9)).trans hw174_9), ((HB.out.cell (World.block_lt_of_cell? w _ hw174_10)).trans hw174_10)⟩ (fun hHeld => ?_); refine with_tabW spec_RootPort.tab7 spec_RootPort.bits7 (fun HT_ HW_ => ?_)
       generalize wc.drew = w45 at BK170 BK173 HB hx174_0 hx174_1 hx174_10 hx174_2 hx174_3 hx174_4 hx174_5 hx174_6 hx174_7 hx174_8 hx174_9 hHeld ⊢
       refine pure_ (i := 0) (N := some 53) (v := ?_) (a' := ?_) #[Y,U,U,U,U,U,U,U,U,U,U,U,U] rfl rfl (any_of HT_.out (by kernel_rfl)) (fun _ _ _ h => h) (Or.inl ⟨by rfl, ?_⟩) ?_ ?_
       rotate_left
       ·intro w'
        go_simp
        with_reducible rfl
       rotate_left
       ·simp only [Act.put, sA, sZ, sS, i64_w, i32_w]
        rfl
       refine pure_ (i := 1) (N := some 54) (v := ?_) (a' := ?_) #[Y,Y,U,U,U,U,U,U,U,U,U,U,U] rfl rfl (any_of HT_.out (by kernel_rfl)) (fun _ _ _ h => h) (Or.inl ⟨by rfl, ?_⟩) ?_ ?_
       rotate_left
       ·intro w'
        go_simp
        with_reducible rfl
       rotate_left
       ·simp only [Act.put, sA, sZ, sS, i64_w, i32_w]
        rfl
       refine pure_ (i := 2) (N := some 55) (v := ?_) (a' := ?_) #[Y,Y,Y,U,U,U,U,U,U,U,U,U,U] rfl rfl (any_of HT_.out (by kernel_rfl)) (fun _ _ _ h => h) (Or.inl ⟨by rfl, ?_⟩) ?_ ?_
       rotate_left
       ·intro w'
        go_simp
        with_reducible rfl
       rotate_left
       ·simp only [Act.put, sA, sZ, sS, i64_w, i32_w]
        rfl
       refine pure_ (i := 3) (N := some 56) (v := ?_) (a' := ?_) #[Y,Y,Y,Y,U,U,U,U,U,U,U,U,U] rfl rfl (any_of HT_.out (by kernel_rfl)) (fun _ _ _ h => h) (Or.inl ⟨by rfl, ?_⟩) ?_ ?_
       rotate_left
       ·intro w'
        go_simp
        with_reducible rfl
       rotate_left
       ·simp only [Act.put, sA, sZ, sS, i64_w, i32_w]
        rfl
       refine pure_ (i := 5) (N := some 58) (v := ?_) (a' := ?_) #[Y,Y,Y,Y,U,Y,U,U,U,U,U,U,U] rfl rfl (any_of HT_.out (by kernel_rfl)) (fun _ _ _ h => h) (Or.inl ⟨by rfl, ?_⟩) ?_ ?_
       rotate_left
       ·intro w'
        go_simp
        with_reducible rfl
       rotate_left
       ·simp only [Act.put, sA, sZ, sS, i64_w, i32_w]
        rfl
       refine pure_ (i := 7) (N := some 60) (v := ?_) (a' := ?_) #[Y,Y,Y,Y,U,Y,U,Y,U,U,U,U,U] rfl rfl (any_of HT_.out (by kernel_rfl)) (fun _ _ _ h => h) (Or.inl ⟨by rfl, ?_⟩) ?_ ?_
       rotate_left
       ·intro w'
        go_simp
        with_reducible rfl
       rotate_left
       ·simp only [Act.put, sA, sZ, sS, i64_w, i32_w]
        rfl
       refine take_ (i := 4) (N := some 57) (v := ?_) (a' := ?_) #[Y,Y,Y,Y,Y,Y,U,Y,U,U,U,U,U] rfl rfl (take_ofW HT_.out HW_.out (by kernel_rfl)) (fun _ _ _ h => h) (Or.inl ⟨by rfl, ?_⟩) hHeld ?_ ?_
       rotate_left
       ·rintro w' ⟨s0, s1, s2, s3, s4, s5, s6, s7, s8, s9, s10, s11, s12, s13, s14, s15, s16, s17, s18, s19, s20, s21, s22, s23⟩
        go_simp
        with_reducible rfl
       rotate_left
       ·simp only [Act.put, sA, sZ, sS, i64_w, i32_w]
        rfl
       refine take_ (i := 6) (N := some 59) (v := ?_) (a' := ?_) #[Y,Y,Y,Y,Y,Y,Y,Y,U,U,U,U,U] rfl rfl (take_ofW HT_.out HW_.out (by kernel_rfl)) (fun _ _ _ h => h) (Or.inl ⟨by rfl, ?_⟩) hHeld ?_ ?_
       rotate_left
       ·rintro w' ⟨s0, s1, s2, s3, s4, s5, s6, s7, s8, s9, s10, s11, s12, s13, s14, s15, s16, s17, s18, s19, s20, s21, s22, s23⟩
        go_simp
        with_reducible rfl
       rotate_left
       ·simp only [Act.put, sA, sZ, sS, i64_w, i32_w]
        rfl
       refine pure_ (i := 8) (N := some 61) (v := ?_) (a' := ?_) #[Y,Y,Y,Y,Y,Y,Y,Y,Y,U,U,U,U] rfl rfl (any_of HT_.out (by kernel_rfl)) (fun _ _ _ h => h) (Or.inl ⟨by rfl, ?_⟩) ?_ ?_
       rotate_left
       ·intro w'
        go_simp
        with_reducible rfl
       rotate_left
       ·simp only [Act.put, sA, sZ, sS, i64_w, i32_w]
        rfl
       refine pure_ (i := 9) (N := some 62) (v := ?_) (a' := ?_) #[Y,Y,Y,Y,Y,Y,Y,Y,Y,Y,U,U,U] rfl rfl (any_of HT_.out (by kernel_rfl)) (fun _ _ _ h => h) (Or.inl ⟨by rfl, ?_⟩) ?_ ?_
       rotate_left
       ·intro w'
        go_simp
        with_reducible rfl
       rotate_left
       ·simp only [Act.put, sA, sZ, sS, i64_w, i32_w]
        rfl
       refine take_ (i := 10) (N := some 63) (v := ?_) (a' := ?_) #[Y,Y,Y,Y,Y,Y,Y,Y,Y,Y,Y,U,U] rfl rfl (take_ofW HT_.out HW_.out (by kernel_rfl)) (fun _ _ _ h => h) (Or.inl ⟨by rfl, ?_⟩) hHeld ?_ ?_
       rotate_left
       ·rintro w' ⟨s0, s1, s2, s3, s4, s5, s6, s7, s8, s9, s10, s11, s12, s13, s14, s15, s16, s17, s18, s19, s20, s21, s22, s23⟩
        go_simp
        with_reducible rfl
       rotate_left
       ·simp only [Act.put, sA, sZ, sS, i64_w, i32_w]
        rfl
       refine one_ (i := 11) (N := some 64) #[Y,Y,Y,Y,Y,Y,Y,Y,Y,Y,Y,Y,U] rfl rfl (one_of HT_.out (by kernel_rfl)) (by decide) (fun K hK => ?_)
       refine goes_ Try.func93 (by kernel_rfl) rfl #[.agg #[.int .i64 ((rd_T109 l0_1 x5_1).f2.f0), .int .i64 ((rd_T109 l0_1 x5_1).f2.f1), .int .i64 ((rd_T109 l0_1 x5_1).f2.f2), .int .i64 ((rd_T109 l0_1 x5_1).f2.f3)], .agg #[.int .i64 ((rd_T109 l0_1 x4_1).f2.f0), .int .i64 ((rd_T109 l0_1 x4_1).f2.f1), .int .i64 ((rd_T109 l0_1 x4_1).f2.f2), .int .i64 ((rd_T109 l0_1 x4_1).f2.f3)]] (by rfl) rfl rfl (by (try simp only [List.map_toArray, List.map_cons, List.map_nil]); first | done | rfl | (simp only [List.length_drop, List.length_take]; rfl)) ?_
       with_reducible refine (spec_Better.calls ((rd_T109 l0_1 x5_1).f2.f0) ((rd_T109 l0_1 x5_1).f2.f1) ((rd_T109 l0_1 x5_1).f2.f2) ((rd_T109 l0_1 x5_1).f2.f3) ((rd_T109 l0_1 x4_1).f2.f0) ((rd_T109 l0_1 x4_1).f2.f1) ((rd_T109 l0_1 x4_1).f2.f2) ((rd_T109 l0_1 x4_1).f2.f3) false _ A41.out).mono ?_
       rintro e w46 ⟨rfl, hb⟩
       refine ⟨_, rfl, ?_⟩
       have n0_ := aM (blk_below (g := gb170) (o := .cells #[.int .i64 a0_0, .slice (some ad172) l0_1.length c0_1] 66 (0, 0)) (by (with_reducible repeat (first | refine blk_drewN ?_ _ | refine blk_drew ?_ | refine blk_alloc ?_ _)); exact BK170.out) hb)
       have n1_ := aM (blk_below (g := gb173) (o := .cells #[.bool ((rd_T109 l0_1 x5_1).f0), .bool ((rd_T109 l0_1 x5_1).f1), .int .i64 ((rd_T109 l0_1 x5_1).f2.f0), .int .i64 ((rd_T109 l0_1 x5_1).f2.f1), .int .i64 ((rd_T109 l0_1 x5_1).f2.f2), .int .i64 ((rd_T109 l0_1 x5_1).f2.f3), .int .i64 ((rd_T109 l0_1 x5_1).f3), .int .i64 ((rd_T109 l0_1 x5_1).f4), .int .i64 ((rd_T109 l0_1 x5_1).f5), .int .i64 ((rd_T109 l0_1 x5_1).f6), .bool ((rd_T109 l0_1 x5_1).f7)] 109 (0, 0)) (by (with_reducible repeat (first | refine blk_drewN ?_ _ | refine blk_drew ?_ | refine blk_alloc ?_ _)); exact BK173.out) hb)
       have n2_ := aM (below_step (by repeat (first | (with_reducible first | exact HB.out | apply below_alloc | apply pw_below_drewN | apply below_drew1 | refine below_set ?_ GE170.out | refine below_set ?_ GE173.out) | exact HB.out)) hb)
       clear BK170
       clear BK173
       clear HB
       have BK170 := n0_
       have BK173 := n1_
       have HB := n2_
       clear n0_ n1_ n2_
       (try clear hb)
       (try clear hb2)
       (try clear hk)
       (try clear hi)
       refine hK.out _ _ ⟨(blk_cell BK173.out 0).trans rfl, (blk_cell BK173.out 1).trans rfl, (blk_cell BK173.out 2).trans rfl, (blk_cell BK173.out 3).trans rfl, (blk_cell BK173.out 4).trans rfl, (blk_cell BK173.out 5).trans rfl, (blk_cell BK173.out 6).trans rfl, (blk_cell BK173.out 7).trans rfl, (blk_cell BK173.out 8).trans rfl, (blk_cell BK173.out 9).trans rfl, (blk_cell BK173.out 10).trans rfl, (blk_cell BK170.out 0).trans rfl, (blk_cell BK170.out 1).trans rfl, ((HB.out.cell (World.block_lt_of_cell? w _ hw174_0)).trans hw174_0), ((HB.out.cell (World.block_lt_of_cell? w _ hw174_1)).trans hw174_1), ((HB.out.cell (World.block_lt_of_cell? w _ hw174_2)).trans hw174_2), ((HB.out.cell (World.block_lt_of_cell? w _ hw174_3)).trans hw174_3), ((HB.out.cell (World.block_lt_of_cell? w _ hw174_4)).trans hw174_4), ((HB.out.cell (World.block_lt_of_cell? w _ hw174_5)).trans hw174_5), ((HB.out.cell (World.block_lt_of_cell? w _ hw174_6)).trans hw174_6), ((HB.out.cell (World.block_lt_of_cell? w _ hw174_7)).trans hw174_7), ((HB.out.cell (World.block_lt_of_cell? w _ hw174_8)).trans hw174_8), ((HB.out.cell (World.block_lt_of_cell? w _ hw174_9)).trans hw174_9), ((HB.out.cell (World.block_lt_of_cell? w _ hw174_10)).trans hw174_10)⟩ (fun hHeld => ?_)
       clear hK K
       refine norm_ (a' := ?_) ?_ ?_
       rotate_left
       ·show Act.put _ (some 64) _ = _
        simp only [Act.put, sA, sZ, sS, i64_w, i32_w]
        rfl
       refine pure_ (i := 12) (N := some 65) (v := ?_) (a' := ?_) #[Y,Y,Y,Y,Y,Y,Y,Y,Y,Y,Y,Y,Y] rfl rfl (any_of HT_.out (by kernel_rfl)) (fun _ _ _ h => h) (Or.inl ⟨by rfl, ?_⟩) ?_ ?_
       rotate_left
       ·intro w'
        go_simp
        with_reducible rfl
       rotate_left
       ·simp only [Act.put, sA, sZ, sS, i64_w, i32_w]
        rfl
       refine done_ (done_of HT_.out (by kernel_rfl)) ?_
       try go_wp2
       go_roundg kj11
       case measure => have := HK1.out; have := HJ2.out; have := HJ11.out; omega
       case rel => (try rw [← Nbq17.out]); exact ⟨(x4_1), (wrap64 (x5_1 + 1)), (by first | rfl | (simp; done) | (simp [*]; done)), (by first | rfl | (simp; done) | (simp [*]; done)), H', ⟨by have := HK1.out; have := HJ2.out; have := HJ11.out; omega⟩, ⟨by (with_reducible repeat (first | refine blk_drewN ?_ _ | refine blk_drew ?_ | refine blk_alloc ?_ _)); exact BK170.out⟩, ⟨by repeat (first | (with_reducible first | exact HB.out | apply below_alloc | apply pw_below_drewN | apply below_drew1 | refine below_set ?_ GE170.out | refine below_set ?_ GE173.out) | exact HB.out)⟩⟩

end Go.Proofs.Ytjmkbmpfknhcdaa.PFnExactOwn
