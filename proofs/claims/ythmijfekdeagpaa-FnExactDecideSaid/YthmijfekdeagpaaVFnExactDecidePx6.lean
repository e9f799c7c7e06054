/- Of the proof of laws.FnExactDecide: a part. No condition beyond what its theorems say. -/
import Derived.Test.YthmijfekdeagpaaVFnExactDecideWTight
import Derived.Test.YthmijfekdeagpaaVFnExactDecidePx0
import Derived.Test.YthmijfekdeagpaaVFnExactDecidePx2
import Derived.Test.YthmijfekdeagpaaVFnExactDecidePx4
import Derived.Test.YthmijfekdeagpaaVFnExactDecidePx5
namespace Go.Proofs.Ythmijfekdeagpaa.PFnExactDecide
open Go.RowKit Go.Proofs.YthmijfekdeagpaaW.PrintWords Go.Proofs.YthmijfekdeagpaaW.PrintLast Go.Proofs.YthmijfekdeagpaaW.PrintMore
attribute [local go_sem] max2_int min2_int max_two min_two max_three min_three max_four min_four   -- for this text's walks alone
set_option linter.unusedVariables false
set_option linter.unusedSimpArgs false

def spec_Own.j0 : Nat → Int → Bool → Int → List (S79) → Option (Int × Int × Int × Int)
 | 0, _, _, _, _ => none
 | k + 1, x1, x19, x134000, x134001 => if x19 = true then (some (0, 0, 0, 0)) else ((spec_RootPort.f k x134000 x134001).bind fun bt137 => (if bt137.2 = true then (if 0 ≤ bt137.1 then (if bt137.1 < (x134001.length : Int) then (some ((rd_T79 x134001 bt137.1).f2.f0, wrap64 (((rd_T79 x134001 bt137.1).f2.f1) + 1), x134000, x1)) else (none)) else (none)) else (some (x134000, 0, x134000, x1))))
def spec_Own.f (k : Nat) (a0_0 : Int) (l0_1 : List (S79)) (a1 : Int) : Option (Int × Int × Int × Int) := (spec_BridgeOk.f k a0_0 l0_1).bind fun t135 => (if t135 = true then ((spec_l1In.f a1 0 (wrap64 ((l0_1.length : Int) - 1))).bind fun t136 => (spec_Own.j0 k a1 (!t136) a0_0 l0_1)) else (spec_Own.j0 k a1 true a0_0 l0_1))
theorem spec_Own.mono_l : ∀ k, (∀ y0 y1 y2 y3, LeO (spec_Own.j0 k y0 y1 y2 y3) (spec_Own.j0 (k + 1) y0 y1 y2 y3))
 | 0 => fun _ _ _ _ r h => by simp [spec_Own.j0] at h
 | k + 1 => by
  have ih0 := spec_Own.mono_l k
  ·intro y0 y1 y2 y3
   unfold spec_Own.j0
   repeat' first
   | (with_reducible exact ih0 _ _ _ _)
   | (with_reducible exact spec_BridgeOk.mono _ _ _)
   | (with_reducible exact spec_RootPort.mono _ _ _)
   | (with_reducible exact LeO.refl _)
   | (with_reducible exact LeO.none _)
   | (with_reducible refine LeO.ite ?_ ?_)
   | (with_reducible refine LeO.bind ?_ (fun _ => ?_))
   | exact ih0 _ _ _ _
   | exact spec_BridgeOk.mono _ _ _
   | exact spec_RootPort.mono _ _ _
   | exact LeO.none _
   | refine LeO.ite ?_ ?_
   | refine LeO.bind ?_ (fun _ => ?_)
theorem spec_Own.mono : ∀ a0 a1 a2 k, LeO (spec_Own.f k a0 a1 a2) (spec_Own.f (k + 1) a0 a1 a2) := by
 intro a0 a1 a2 k
 have ih0 := spec_Own.mono_l k
 unfold spec_Own.f
 repeat' first
   | (with_reducible exact ih0 _ _ _ _)
   | (with_reducible exact spec_BridgeOk.mono _ _ _)
   | (with_reducible exact spec_RootPort.mono _ _ _)
   | (with_reducible exact LeO.refl _)
   | (with_reducible exact LeO.none _)
   | (with_reducible refine LeO.ite ?_ ?_)
   | (with_reducible refine LeO.bind ?_ (fun _ => ?_))
   | exact ih0 _ _ _ _
   | exact spec_BridgeOk.mono _ _ _
   | exact spec_RootPort.mono _ _ _
   | exact LeO.none _
   | refine LeO.ite ?_ ?_
   | refine LeO.bind ?_ (fun _ => ?_)
set_option maxHeartbeats 60000000 in
set_option maxRecDepth 100000 in
theorem spec_Own.calls (k : Nat) (a0_0 : Int) (A0_1 : Option Addr) (c0_1 : Nat) (l0_1 : List (S79)) (a1 : Int) (r1 : Int) (r2 : Int) (r3 : Int) (r4 : Int) (w : World) (hr0_1 : Kd.C k79 w A0_1 l0_1.length l0_1) (hc0_1 : l0_1.length ≤ c0_1) (h : spec_Own.f k a0_0 l0_1 a1 = some (r1, r2, r3, r4)) :
  Calls Try.prog 41 #[.agg #[.int .i64 a0_0, .slice A0_1 l0_1.length c0_1], .int .i64 a1] w fun e w' => e = .returned (.agg #[.int .i64 r1, .int .i64 r2, .int .i64 r3, .int .i64 r4]) ∧ Below w.heap.size w w' := by
 have hu28 := Try.underlying28
 have hu73 := Try.underlying73
 have HR0_1 := aM hr0_1
 have HC0_1 := aM hc0_1
 clear hr0_1 hc0_1
 have HB := aM (Below.refl w.heap.size w)
 have H : ((spec_BridgeOk.f k a0_0 l0_1).bind fun t135 => (if t135 = true then ((spec_l1In.f a1 0 (wrap64 ((l0_1.length : Int) - 1))).bind fun t136 => (spec_Own.j0 k a1 (!t136) a0_0 l0_1)) else (spec_Own.j0 k a1 true a0_0 l0_1))) = some (r1, r2, r3, r4) := h
 clear h
 have HC3 := aM H
 clear H
 go_enter Try.func41, Try.ntmps41
 go_upto_region 1 with (first | ((with_reducible refine gD (N := 2) rfl ?_); (try (refine gate_guard (by rfl) ?_; dsimp only)); refine bE (N := 2) (cs := #[.int .i64 a0_0, .slice A0_1 l0_1.length c0_1]) (t := 28) ?_; intro gb133 hg w4 hbox hb; have BK133 := aM (hbox); have GW133 := gE hg (below_size (bl HB.out)); have GE133 := gE hg (below_size (bl HB.out)); replace HB := aM (bS (bl HB.out) hb); clear hb hbox hg) | ((with_reducible refine gD (N := 4) rfl ?_); (try (refine gate_guard (by rfl) ?_; dsimp only)); refine bE (N := 4) (cs := #[.int .i64 0, .int .i64 0, .int .i64 0, .int .i64 0]) (t := 73) ?_; intro gb134 hg w5 hbox hb; have BK134 := aM (hbox); have GW134 := gE hg (below_size (bl HB.out)); have GE134 := gE hg (below_size (bl HB.out)); have NB133_134 := nL hg (blk_lt (bk BK133.out)); have NB134_133 := nG hg (blk_lt (bk BK133.out)); replace BK133 := aM (bB (bk BK133.out) hb); replace HB := aM (bS (bl HB.out) hb); clear hb hbox hg))
 (try simp only [Act.put, sA, sZ, sS])
 go_cut [19] (fun v19 wc => ∃ (kq : Nat) (x19_2 : Bool), v19 = .bool x19_2 ∧ Aside0 (spec_Own.j0 kq a1 x19_2 a0_0 l0_1 = some (r1, r2, r3, r4)) ∧ Aside0 (kq ≤ k) ∧ Aside0 (wc.heap[gb133]? = some (.cells #[.int .i64 a0_0, (.slice A0_1 l0_1.length c0_1)] 28 (0, 0))) ∧ Aside0 (wc.heap[gb134]? = some (.cells #[.int .i64 0, .int .i64 0, .int .i64 0, .int .i64 0] 73 (0, 0))) ∧ Aside0 (Below w.heap.size w wc))
 case first =>
  have H := HC3.out
  clear HC3
  replace H := Option.bind_eq_some_iff.mp H
  obtain ⟨t135, A60, H⟩ := H
  replace H : (if t135 = true then ((spec_l1In.f a1 0 (wrap64 ((l0_1.length : Int) - 1))).bind fun t136 => (spec_Own.j0 k a1 (!t136) a0_0 l0_1)) else (spec_Own.j0 k a1 true a0_0 l0_1)) = some (r1, r2, r3, r4) := H
  have A6 := aM A60
  clear A60
  by_cases c7 : t135 = true
  case neg =>
   replace c7 := Bool.eq_false_iff.mpr c7
   subst c7
   have H1 : (spec_Own.j0 k a1 true a0_0 l0_1) = some (r1, r2, r3, r4) := by rw [if_neg (show ¬ (false = true) by decide)] at H; exact H
   clear H
   have H := H1
   clear H1
   have H' := aM H
   clear H
   have hnb13 := NB133_134.out
   have hnc13 := NB134_133.out
   have hcz14 := cA2 BK133.out
   go_wp2_with (first | ((with_reducible refine gC (f := 46) rfl ?_); refine gL (some 9) Try.func46 #[.agg #[.int .i64 a0_0, .slice A0_1 l0_1.length c0_1]] ?_; (with_reducible refine (spec_BridgeOk.calls k a0_0 _ _ l0_1 false _ ?side1 ?side2 A6.out).mono ?_); (case side1 => repeat (first | exact (cB HR0_1.out HB.out) | (with_reducible refine Kd.C_alloc ?_ _) | (with_reducible refine Kd.C_drewN ?_ _) | (with_reducible refine Kd.C_drew ?_))); (case side2 => exact HC0_1.out); rintro e w15 ⟨rfl, hb⟩; refine ⟨_, rfl, ?_⟩; replace BK133 := aM (bB (bk BK133.out) hb); replace BK134 := aM (bB (bk BK134.out) hb); replace HB := aM (bS (bl HB.out) hb); (try clear hb)))
   go_meet
   case rel => exact ⟨_, (true), xE, H', ⟨by first | omega | exact Nat.le_refl _⟩, ⟨by (with_reducible repeat (first | refine blk_drewN ?_ _ | refine blk_drew ?_ | refine blk_alloc ?_ _)); exact BK133.out⟩, ⟨by (with_reducible repeat (first | refine blk_drewN ?_ _ | refine blk_drew ?_ | refine blk_alloc ?_ _)); exact BK134.out⟩, ⟨bl HB.out⟩⟩
  subst c7
  have H1 : ((spec_l1In.f a1 0 (wrap64 ((l0_1.length : Int) - 1))).bind fun t136 => (spec_Own.j0 k a1 (!t136) a0_0 l0_1)) = some (r1, r2, r3, r4) := by rw [if_pos rfl] at H; exact H
  clear H
  have H := H1
  clear H1
  replace H := Option.bind_eq_some_iff.mp H
  obtain ⟨t136, A80, H⟩ := H
  replace H : (spec_Own.j0 k a1 (!t136) a0_0 l0_1) = some (r1, r2, r3, r4) := H
  have A8 := aM A80
  clear A80
  have H' := aM H
  clear H
  have hnb9 := NB133_134.out
  have hnc9 := NB134_133.out
  have hcz10 := cA2 BK133.out
  go_wp2_with (first | ((with_reducible refine gC (f := 46) rfl ?_); refine gL (some 9) Try.func46 #[.agg #[.int .i64 a0_0, .slice A0_1 l0_1.length c0_1]] ?_; (with_reducible refine (spec_BridgeOk.calls k a0_0 _ _ l0_1 true _ ?side1 ?side2 A6.out).mono ?_); (case side1 => repeat (first | exact (cB HR0_1.out HB.out) | (with_reducible refine Kd.C_alloc ?_ _) | (with_reducible refine Kd.C_drewN ?_ _) | (with_reducible refine Kd.C_drew ?_))); (case side2 => exact HC0_1.out); rintro e w11 ⟨rfl, hb⟩; refine ⟨_, rfl, ?_⟩; replace BK133 := aM (bB (bk BK133.out) hb); replace BK134 := aM (bB (bk BK134.out) hb); replace HB := aM (bS (bl HB.out) hb); (try clear hb); have hcz12 := cA2 BK133.out) | (go_at_call 80; (with_reducible refine (spec_l1In.calls a1 0 (wrap64 ((l0_1.length : Int) - 1)) t136 _ A8.out).mono ?_); rintro e w' ⟨rfl, ⟨nd, rfl⟩⟩))
  go_meet
  case rel => exact ⟨_, (!t136), xE, H', ⟨by first | omega | exact Nat.le_refl _⟩, ⟨by (with_reducible repeat (first | refine blk_drewN ?_ _ | refine blk_drew ?_ | refine blk_alloc ?_ _)); exact BK133.out⟩, ⟨by (with_reducible repeat (first | refine blk_drewN ?_ _ | refine blk_drew ?_ | refine blk_alloc ?_ _)); exact BK134.out⟩, ⟨bl HB.out⟩⟩
 case rest =>
  clear HC3
  try clear c1
  try clear p2
  try clear c4
  try clear p6
  try clear c7
  try clear c9
  try clear c13
  try clear hcz10
  try clear hcz10_1
  try clear hcz12
  try clear hcz14
  try clear hcz14_1
  try clear hfz10_0
  try clear hfz10_1
  try clear hfz14_0
  try clear hfz14_1
  obtain ⟨kq, x19_2, rfl, HA, HJ2, BK133, BK134, HB⟩ := hcut
  cases kq with
  | zero => exact absurd HA.out (by simp [spec_Own.j0])
  | succ kj2 =>
   have H := HA.out
   clear HA
   simp only [spec_Own.j0] at H
   by_cases c16 : x19_2 = true
   case pos =>
    subst c16
    have H1 : (some (0, 0, 0, 0)) = some (r1, r2, r3, r4) := by rw [if_pos rfl] at H; exact H
    clear H
    have H := H1
    clear H1
    simp only [Option.some.injEq, Prod.mk.injEq] at H
    obtain ⟨rfl, rfl, rfl, rfl⟩ := H
    have hnb17 := NB134_133.out
    have hnc17 := NB133_134.out
    have hcz18 := cA4 BK134.out
    go_wp2
    refine bodyPost_ret (results_cell_row rfl _ _ gb134 73 #[.int .i64 0, .int .i64 0, .int .i64 0, .int .i64 0] (0, 0) _ rfl (pA4 (fm BK134.out)) Try.underlying73 rfl (by kernel_rfl)) rfl ?_
    exact ⟨xW, bl HB.out⟩
   replace c16 := Bool.eq_false_iff.mpr c16
   subst c16
   have H1 : ((spec_RootPort.f kj2 a0_0 l0_1).bind fun bt137 => (if bt137.2 = true then (if 0 ≤ bt137.1 then (if bt137.1 < (l0_1.length : Int) then (some ((rd_T79 l0_1 bt137.1).f2.f0, wrap64 (((rd_T79 l0_1 bt137.1).f2.f1) + 1), a0_0, a1)) else (none)) else (none)) else (some (a0_0, 0, a0_0, a1)))) = some (r1, r2, r3, r4) := by rw [if_neg (show ¬ (false = true) by decide)] at H; exact H
   clear H
   have H := H1
   clear H1
   replace H := Option.bind_eq_some_iff.mp H
   obtain ⟨⟨t137, t138⟩, A190, H⟩ := H
   replace H : (if t138 = true then (if 0 ≤ t137 then (if t137 < (l0_1.length : Int) then (some ((rd_T79 l0_1 t137).f2.f0, wrap64 (((rd_T79 l0_1 t137).f2.f1) + 1), a0_0, a1)) else (none)) else (none)) else (some (a0_0, 0, a0_0, a1))) = some (r1, r2, r3, r4) := H
   have A19 := aM A190
   clear A190
   by_cases c20 : t138 = true
   case neg =>
    replace c20 := Bool.eq_false_iff.mpr c20
    subst c20
    have H1 : (some (a0_0, 0, a0_0, a1)) = some (r1, r2, r3, r4) := by rw [if_neg (show ¬ (false = true) by decide)] at H; exact H
    clear H
    have H := H1
    clear H1
    simp only [Option.some.injEq, Prod.mk.injEq] at H
    obtain ⟨rfl, rfl, rfl, rfl⟩ := H
    have hnb33 := NB133_134.out
    have hnc33 := NB134_133.out
    have hcz34 := cA2 BK133.out
    go_wp2_with (first | ((with_reducible refine gC (f := 36) rfl ?_); refine gL (some 23) Try.func36 #[.agg #[.int .i64 a0_0, .slice A0_1 l0_1.length c0_1]] ?_; (with_reducible refine (spec_RootPort.calls kj2 a0_0 _ _ l0_1 t137 false _ ?side1 ?side2 A19.out).mono ?_); (case side1 => repeat (first | exact (cB HR0_1.out HB.out) | (with_reducible refine Kd.C_alloc ?_ _) | (with_reducible refine Kd.C_drewN ?_ _) | (with_reducible refine Kd.C_drew ?_))); (case side2 => exact HC0_1.out); rintro e w35 ⟨rfl, hb⟩; refine ⟨_, rfl, ?_⟩; replace BK133 := aM (bB (bk BK133.out) hb); replace BK134 := aM (bB (bk BK134.out) hb); replace HB := aM (bS (bl HB.out) hb); (try clear hb); have hcz36 := cA2 BK133.out; have hcz37 := cA4 BK134.out))
    refine bodyPost_ret (results_cell_row rfl _ _ gb134 73 #[.int .i64 a0_0, .int .i64 0, .int .i64 a0_0, .int .i64 a1] (0, 0) _ rfl (pA4 (fm BK134.out)) Try.underlying73 rfl (by kernel_rfl)) rfl ?_
    exact ⟨xW, bl HB.out⟩
   subst c20
   have H1 : (if 0 ≤ t137 then (if t137 < (l0_1.length : Int) then (some ((rd_T79 l0_1 t137).f2.f0, wrap64 (((rd_T79 l0_1 t137).f2.f1) + 1), a0_0, a1)) else (none)) else (none)) = some (r1, r2, r3, r4) := by rw [if_pos rfl] at H; exact H
   clear H
   have H := H1
   clear H1
   by_cases c21 : 0 ≤ t137
   case neg =>
    rw [if_neg c21] at H
    exact absurd H (by simp)
   rw [if_pos c21] at H
   have c21b0 : decide (0 ≤ t137) = true := decide_eq_true c21
   clear c21
   by_cases c22 : t137 < (l0_1.length : Int)
   case neg =>
    rw [if_neg c22] at H
    exact absurd H (by simp)
   rw [if_pos c22] at H
   have c22b0 : decide (t137 < (l0_1.length : Int)) = true := decide_eq_true c22
   clear c22
   simp only [Option.some.injEq, Prod.mk.injEq] at H
   obtain ⟨rfl, rfl, rfl, rfl⟩ := H
   have hnb23 := NB133_134.out
   have hnc23 := NB134_133.out
   have hcz24 := cA2 BK133.out
   go_wp2_with (first | ((with_reducible refine gC (f := 36) rfl ?_); refine gL (some 23) Try.func36 #[.agg #[.int .i64 a0_0, .slice A0_1 l0_1.length c0_1]] ?_; (with_reducible refine (spec_RootPort.calls kj2 a0_0 _ _ l0_1 t137 true _ ?side1 ?side2 A19.out).mono ?_); (case side1 => repeat (first | exact (cB HR0_1.out HB.out) | (with_reducible refine Kd.C_alloc ?_ _) | (with_reducible refine Kd.C_drewN ?_ _) | (with_reducible refine Kd.C_drew ?_))); (case side2 => exact HC0_1.out); rintro e w25 ⟨rfl, hb⟩; refine ⟨_, rfl, ?_⟩; replace BK133 := aM (bB (bk BK133.out) hb); replace BK134 := aM (bB (bk BK134.out) hb); replace HB := aM (bS (bl HB.out) hb); (try clear hb); have hcz26 := cA2 BK133.out; have p139 : 0 ≤ (t137 : Int) := of_decide_eq_true (by first | (with_reducible assumption) | assumption); have q139 : t137 < (l0_1.length : Int) := of_decide_eq_true (by first | (with_reducible assumption) | assumption); obtain ⟨ad139, e139, hx139_0, hx139_1, hx139_2, hx139_3, hx139_4, hx139_5, hx139_6, hx139_7, hx139_8, hx139_9, hx139_10⟩ := at_T79 HR0_1.out t137 p139 q139; cases e139; replace hx139_0 := (HB.out.cell (World.block_lt_of_cell? w _ hx139_0)).trans hx139_0; replace hx139_1 := (HB.out.cell (World.block_lt_of_cell? w _ hx139_1)).trans hx139_1; replace hx139_2 := (HB.out.cell (World.block_lt_of_cell? w _ hx139_2)).trans hx139_2; replace hx139_3 := (HB.out.cell (World.block_lt_of_cell? w _ hx139_3)).trans hx139_3; replace hx139_4 := (HB.out.cell (World.block_lt_of_cell? w _ hx139_4)).trans hx139_4; replace hx139_5 := (HB.out.cell (World.block_lt_of_cell? w _ hx139_5)).trans hx139_5; replace hx139_6 := (HB.out.cell (World.block_lt_of_cell? w _ hx139_6)).trans hx139_6; replace hx139_7 := (HB.out.cell (World.block_lt_of_cell? w _ hx139_7)).trans hx139_7; replace hx139_8 := (HB.out.cell (World.block_lt_of_cell? w _ hx139_8)).trans hx139_8; replace hx139_9 := (HB.out.cell (World.block_lt_of_cell? w _ hx139_9)).trans hx139_9; replace hx139_10 := (HB.out.cell (World.block_lt_of_cell? w _ hx139_10)).trans hx139_10; replace p139 := eq_true p139; replace q139 := eq_true q139) | ((with_reducible refine gD (N := 7) rfl ?_); (try (refine gate_guard (by rfl) ?_; dsimp only)); refine bE (N := 7) (cs := #[.int .i64 0, .int .i64 0, .int .i64 0, .int .i64 0]) (t := 73) ?_; intro gb140 hg w27 hbox hb; have BK140 := aM (hbox); have GW140 := gE hg (below_size (bl HB.out)); have GE140 := gE hg (below_size (bl HB.out)); have NB133_140 := nL hg (blk_lt (bk BK133.out)); have NB140_133 := nG hg (blk_lt (bk BK133.out)); have NB134_140 := nL hg (blk_lt (bk BK134.out)); have NB140_134 := nG hg (blk_lt (bk BK134.out)); replace BK133 := aM (bB (bk BK133.out) hb); replace BK134 := aM (bB (bk BK134.out) hb); replace HB := aM (bS (bl HB.out) hb); clear hb hbox hg; have hnb28 := NB140_133.out; have hnc28 := NB133_140.out; have hnb29 := NB140_134.out; have hnc29 := NB134_140.out; have hcz30 := cA4 BK140.out; have hcz31 := cA2 BK133.out; have hcz32 := cA4 BK134.out))
   refine bodyPost_ret (results_cell_row rfl _ _ gb134 73 #[.int .i64 ((rd_T79 l0_1 t137).f2.f0), .int .i64 (wrap64 (((rd_T79 l0_1 t137).f2.f1) + 1)), .int .i64 a0_0, .int .i64 a1] (0, 0) _ rfl (pA4 (fm BK134.out)) Try.underlying73 rfl (by kernel_rfl)) rfl ?_
   exact ⟨xW, bl HB.out⟩

def spec_l8Copy.f (a0_0 : Int) (l0_1 : List (S79)) : Option (Int × (List (S79))) := (some (([] : List (S79)) : List (S79))).bind fun y143 => (if y143.length + l0_1.length < 1759218604441 then (some (a0_0, (y143 ++ l0_1))) else (none))
def spec_l8Copy.T1 : Bool × List (List Nat × List Nat) := (true, [([], []), ([0], [0]), ([], []), ([], []), ([3], [3]), ([2, 4], [2, 4]), ([1, 5], [1, 5]), ([6, 5, 0, 1, 2, 3, 4, 5, 6], [6])])
def spec_l8Copy.B1 : List Nat := [0, 1, 0, 0, 8, 28, 63, 127]
theorem spec_l8Copy.tab1 : rtab .any (opsOf Try.f67 1) = spec_l8Copy.T1 := by kernel_rfl
theorem spec_l8Copy.bits1 : waitsOk spec_l8Copy.T1.2 spec_l8Copy.B1 = true := by kernel_rfl
set_option maxHeartbeats 60000000 in
set_option maxRecDepth 100000 in
theorem spec_l8Copy.calls (a0_0 : Int) (A0_1 : Option Addr) (c0_1 : Nat) (l0_1 : List (S79)) (r1 : Int) (r2 : List (S79)) (w : World) (hr0_1 : Kd.C k79 w A0_1 l0_1.length l0_1) (hc0_1 : l0_1.length ≤ c0_1) (h : spec_l8Copy.f a0_0 l0_1 = some (r1, r2)) :
  Calls Try.prog 67 #[.agg #[.int .i64 a0_0, .slice A0_1 l0_1.length c0_1]] w fun e w' => ∃ v1_ : Value, e = .returned (.agg #[.int .i64 r1, v1_]) ∧ Kd.R k79 79 w' w.heap.size (fun _ => True) v1_ r2 ∧ Below w.heap.size w w' := by
 have hu28 := Try.underlying28
 have HR0_1 := aM hr0_1
 have HC0_1 := aM hc0_1
 clear hr0_1 hc0_1
 have HB := aM (Below.refl w.heap.size w)
 have H : ((some (([] : List (S79)) : List (S79))).bind fun y143 => (if y143.length + l0_1.length < 1759218604441 then (some (a0_0, (y143 ++ l0_1))) else (none))) = some (r1, r2) := h
 clear h
 obtain ⟨y143, hy143⟩ : ∃ y_ : List (S79), y_ = (([] : List (S79))) := ⟨_, rfl⟩
 replace H : (if y143.length + l0_1.length < 1759218604441 then (some (a0_0, (y143 ++ l0_1))) else (none)) = some (r1, r2) := by first | (rw [hy143]; with_reducible exact H) | (have H2_ := (Option.bind_some _ _).symm.trans H; rw [hy143]; with_reducible exact H2_) | (have H2_ := (Option.bind_some _ _).symm.trans H; with_reducible exact H2_) | with_reducible exact H | (rw [hy143]; exact H) | exact H
 have Ny143 := aM hy143
 clear hy143
 by_cases c2 : y143.length + l0_1.length < 1759218604441
 case neg =>
  rw [if_neg c2] at H
  exact absurd H (by simp)
 rw [if_pos c2] at H
 have LMc2 := aM c2
 clear c2
 obtain ⟨y146, hy146⟩ : ∃ y_ : List (S79), y_ = (y143 ++ l0_1) := ⟨_, rfl⟩
 replace H : (some (a0_0, y146)) = some (r1, r2) := by first | (rw [hy146]; with_reducible exact H) | (have H2_ := (Option.bind_some _ _).symm.trans H; rw [hy146]; with_reducible exact H2_) | (have H2_ := (Option.bind_some _ _).symm.trans H; with_reducible exact H2_) | with_reducible exact H | (rw [hy146]; exact H) | exact H
 have Ny146 := aM hy146
 clear hy146
 simp only [Option.some.injEq, Prod.mk.injEq] at H
 obtain ⟨rfl, rfl⟩ := H
 go_enter Try.func67, Try.ntmps67
 try go_wp2_with (first | ((with_reducible refine gD (N := 1) rfl ?_); refine bE (N := 1) (cs := #[.int .i64 a0_0, .slice A0_1 l0_1.length c0_1]) (t := 28) ?_; intro gb141 hg w3 hbox hb; have BK141 := aM (hbox); have GW141 := gE hg (below_size (bl HB.out)); have GE141 := gE hg (below_size (bl HB.out)); replace HB := aM (bS (bl HB.out) hb); clear hb hbox hg) | ((with_reducible refine gD (N := 2) rfl ?_); refine bE (N := 2) (cs := #[.int .i64 0, .slice none 0 0]) (t := 28) ?_; intro gb142 hg w4 hbox hb; have BK142 := aM (hbox); have GW142 := gE hg (below_size (bl HB.out)); have GE142 := gE hg (below_size (bl HB.out)); have NB141_142 := nL hg (blk_lt (bk BK141.out)); have NB142_141 := nG hg (blk_lt (bk BK141.out)); replace BK141 := aM (bB (bk BK141.out) hb); replace HB := aM (bS (bl HB.out) hb); clear hb hbox hg))
 replace BK141 := aM (blk_drew BK141.out)
 replace BK142 := aM (blk_drew BK142.out)
 replace HB := aM (below_drew1 HB.out)
 refine start_ (n := 8) (S := fun w' => cS2 w' gb141 (.int .i64 a0_0) (.slice A0_1 l0_1.length c0_1)) (ds := []) (dn 8 0) (by kernel_rfl) rfl rfl ⟨cI BK141.out 0, cI BK141.out 1⟩ (fun hHeld => ?_); refine with_tabW spec_l8Copy.tab1 spec_l8Copy.bits1 (fun HT_ HW_ => ?_)
 generalize w4.drew = w5 at BK141 BK142 HB hHeld ⊢
 refine nY (N := some 3) HT_ ?_
 refine pY (i := 3) (N := some 6) #[Y,U,U,Y,U,U,U,U] HT_ ?_
 refine aY (i := 1) (N := some 4) #[Y,Y,U,Y,U,U,U,U] HT_ HW_ hHeld ?_
 refine aY (i := 4) (N := some 7) #[Y,Y,U,Y,Y,U,U,U] HT_ HW_ hHeld ?_
 refine one_ (i := 2) (N := some 5) #[Y,Y,Y,Y,Y,U,U,U] rfl rfl (one_of HT_.out (by kernel_rfl)) (by decide) (fun K hK => ?_)
 refine Kd.R_lit_step k79 _ 79 ?hg (N := 5) ?hd (xs := ([] : List (S79))) (inner := []) (ok := fun _ => True) (okp := fun _ => True) ?hr ?hp (fun _ hk => hk) trivial (Below.refl _ _) (Nat.le_refl _) (by simp) ?_; (case hd => rfl); (case hg => rfl); (case hr => first | (go_simp; done) | (go_simp; rfl)); (case hp => exact (Reps.none _ _))
 intro v144 w6 ho7 hb hg_ hnew_
 clear hg_ hnew_
 (first | rw [← Ny143.out] at ho7 | (simp only [Int.reduceToNat] at ho7; rw [← Ny143.out] at ho7))
 have HO145 := aM (Kd.R_lower ho7 (below_size (bl HB.out)))
 replace BK141 := aM (bB (bk BK141.out) hb)
 replace BK142 := aM (bB (bk BK142.out) hb)
 replace HB := aM (bS (bl HB.out) hb)
 clear hb ho7
 refine hK.out _ _ ⟨cI BK141.out 0, cI BK141.out 1⟩ (fun hHeld => ?_)
 clear hK K
 refine norm_ (a' := ?_) ?_ ?_
 rotate_left
 ·show Act.put _ (some 5) _ = _
  simp only [Act.put, sA, sZ, sS, i64_w, i32_w]
  rfl
 refine one_ (i := 5) (N := some 8) #[Y,Y,Y,Y,Y,Y,U,U] rfl rfl (one_of HT_.out (by kernel_rfl)) (by decide) (fun K hK => ?_)
 refine Kd.R_append_rows_step k79 (w0 := w) w.heap.size (by rfl) (.tmp 5) (.tmp 7) 26 79 (.agg #[(.bool false), (.bool false), (.int .i64 0), (.int .i64 0), (.int .i64 0), (.int .i64 0), (.int .i64 0), (.int .i64 0), (.int .i64 0), (.int .i64 0), (.bool false)]) 80 rfl Try.underlying26 info79 rfl (by decide) (by omega) v144 y143 l0_1 _ _ _ (fun _ => True) (fun _ => False) rfl rfl ?aO ?aR (fun _ _ h => h) (fun _ h => h.elim) ?aF ?aB ?aS ?aL ?_
 (case aR => repeat (first | exact (cB HR0_1.out HB.out) | (with_reducible refine Kd.C_alloc ?_ _) | (with_reducible refine Kd.C_drewN ?_ _) | (with_reducible refine Kd.C_drew ?_)))
 (case aB => exact (bl HB.out))
 (case aF => exact (fun _ _ => trivial))
 (case aO => exact (kr HO145.out))
 (case aS => exact (below_size (bl HB.out)))
 (case aL => have := LMc2.out; omega)
 intro v147 w8 ho hb hg hat
 rw [← Ny146.out] at ho
 have HO148 := aM (ho)
 replace BK141 := aM (blk_grown (bk BK141.out) hg (Kd.R_ne HO145.out BK141.out (by decide)))
 replace BK142 := aM (blk_grown (bk BK142.out) hg (Kd.R_ne HO145.out BK142.out (by decide)))
 replace HB := aM (hb)
 clear HO145
 clear ho hb hg hat
 obtain ⟨Ao9, co9, eo9⟩ := Kd.R_slice HO148.out
 (first | subst eo9 | (injection eo9 with f1_ f2_ f3_; have f4_ := f1_.symm; have f5_ := f3_.symm; clear f1_ f2_ f3_; subst f4_; subst f5_))
 refine hK.out _ _ ⟨cI BK141.out 0, cI BK141.out 1⟩ (fun hHeld => ?_)
 clear hK K
 refine norm_ (a' := ?_) ?_ ?_
 rotate_left
 ·show Act.put _ (some 8) _ = _
  simp only [Act.put, sA, sZ, sS, i64_w, i32_w]
  rfl
 refine pY (i := 6) (N := some 9) #[Y,Y,Y,Y,Y,Y,Y,U] HT_ ?_
 refine one_ (i := 7) (N := none) #[Y,Y,Y,Y,Y,Y,Y,Y] rfl rfl (one_of HT_.out (by kernel_rfl)) (by decide) (fun K hK => ?_)
 have hs10 := cI BK142.out 0
 have hfs10 := bF BK142.out 0
 have hns10_0 := NB141_142.out
 have hms10_0 := NB142_141.out
 have hs11 := cI BK142.out 1
 have hfs11 := bF BK142.out 1
 have hns11_0 := NB141_142.out
 have hms11_0 := NB142_141.out
 refine skip_ (w1 := ?_) (by rfl) rfl ?_ ?_
 rotate_left
 ·go_simp
  rfl
 refine hK.out _ _ ⟨(cm (hHeld.1)), (cm (hHeld.2))⟩ (fun hHeld => ?_)
 clear hK K
 refine done_ (done_of HT_.out (by kernel_rfl)) ?_
 try go_wp2
 refine bodyPost_ret (results_cell_row rfl _ _ gb142 28 #[.int .i64 a0_0, .slice Ao9 y146.length co9] (0, 0) _ rfl (pA2 (fm BK142.out)) Try.underlying28 rfl (by kernel_rfl)) rfl ?_
 exact ⟨_, xW, by (with_reducible repeat (first | apply Kd.R_alloc | apply Kd.R_drewN | apply Kd.R_drew)); exact Kd.R_mono (kF (p := ⟨gb142, 1, none⟩) (kF (p := ⟨gb142, 0, none⟩) (Kd.R_types HO148.out BK142.out (by decide)) (fun _ hk => hk.2) (.int .i64 a0_0)) (fun _ hk => hk.2) (.slice Ao9 y146.length co9)) (fun _ hk => trivial), bl HB.out⟩

def spec_l7Open.f (a0_0 : Bool) (a0_1 : Bool) (a0_2 : Int) (a0_3 : Int) (a0_4 : Int) (a0_5 : Int) (a0_6 : Int) (a0_7 : Int) (a0_8 : Int) (a0_9 : Int) (a0_10 : Bool) : Option (Bool × Bool × Int × Int × Int × Int × Int × Int × Int × Int × Bool) := if a0_8 = 1 then (some (a0_0, a0_1, a0_2, a0_3, a0_4, a0_5, a0_6, a0_7, a0_8, a0_9, (a0_9 == 0))) else (if a0_8 = 2 then (some (a0_0, a0_1, a0_2, a0_3, a0_4, a0_5, a0_6, a0_7, a0_8, a0_9, (a0_9 == 0))) else (some (a0_0, a0_1, a0_2, a0_3, a0_4, a0_5, a0_6, a0_7, a0_8, a0_9, false)))
set_option maxHeartbeats 60000000 in
set_option maxRecDepth 100000 in
theorem spec_l7Open.calls (a0_0 : Bool) (a0_1 : Bool) (a0_2 : Int) (a0_3 : Int) (a0_4 : Int) (a0_5 : Int) (a0_6 : Int) (a0_7 : Int) (a0_8 : Int) (a0_9 : Int) (a0_10 : Bool) (r1 : Bool) (r2 : Bool) (r3 : Int) (r4 : Int) (r5 : Int) (r6 : Int) (r7 : Int) (r8 : Int) (r9 : Int) (r10 : Int) (r11 : Bool) (w : World) (h : spec_l7Open.f a0_0 a0_1 a0_2 a0_3 a0_4 a0_5 a0_6 a0_7 a0_8 a0_9 a0_10 = some (r1, r2, r3, r4, r5, r6, r7, r8, r9, r10, r11)) :
  Calls Try.prog 142 #[.agg #[.bool a0_0, .bool a0_1, .int .i64 a0_2, .int .i64 a0_3, .int .i64 a0_4, .int .i64 a0_5, .int .i64 a0_6, .int .i64 a0_7, .int .i64 a0_8, .int .i64 a0_9, .bool a0_10]] w fun e w' => e = .returned (.agg #[.bool r1, .bool r2, .int .i64 r3, .int .i64 r4, .int .i64 r5, .int .i64 r6, .int .i64 r7, .int .i64 r8, .int .i64 r9, .int .i64 r10, .bool r11]) ∧ Below w.heap.size w w' := by
 have hu79 := Try.underlying79
 have HB := aM (Below.refl w.heap.size w)
 have H : (if a0_8 = 1 then (some (a0_0, a0_1, a0_2, a0_3, a0_4, a0_5, a0_6, a0_7, a0_8, a0_9, (a0_9 == 0))) else (if a0_8 = 2 then (some (a0_0, a0_1, a0_2, a0_3, a0_4, a0_5, a0_6, a0_7, a0_8, a0_9, (a0_9 == 0))) else (some (a0_0, a0_1, a0_2, a0_3, a0_4, a0_5, a0_6, a0_7, a0_8, a0_9, false)))) = some (r1, r2, r3, r4, r5, r6, r7, r8, r9, r10, r11) := h
 clear h
 by_cases c2 : a0_8 = 1
 case pos =>
  rw [if_pos c2] at H
  have c2b0 : (a0_8 == 1) = true := beq_iff_eq.mpr c2
  have c2b1 : (a0_8 != 1) = false := bne_eq_false_iff_eq.mpr c2
  clear c2
  simp only [Option.some.injEq, Prod.mk.injEq] at H
  obtain ⟨rfl, rfl, rfl, rfl, rfl, rfl, rfl, rfl, rfl, rfl, rfl⟩ := H
  go_enter Try.func142, Try.ntmps142
  go_wp2_with (first | ((with_reducible refine gD (N := 1) rfl ?_); refine bE (N := 1) (cs := #[.bool a0_0, .bool a0_1, .int .i64 a0_2, .int .i64 a0_3, .int .i64 a0_4, .int .i64 a0_5, .int .i64 a0_6, .int .i64 a0_7, .int .i64 a0_8, .int .i64 a0_9, .bool a0_10]) (t := 79) ?_; intro gb149 hg w3 hbox hb; have BK149 := aM (hbox); have GW149 := gE hg (below_size (bl HB.out)); have GE149 := gE hg (below_size (bl HB.out)); replace HB := aM (bS (bl HB.out) hb); clear hb hbox hg) | ((with_reducible refine gD (N := 2) rfl ?_); refine bE (N := 2) (cs := #[.bool false, .bool false, .int .i64 0, .int .i64 0, .int .i64 0, .int .i64 0, .int .i64 0, .int .i64 0, .int .i64 0, .int .i64 0, .bool false]) (t := 79) ?_; intro gb150 hg w4 hbox hb; have BK150 := aM (hbox); have GW150 := gE hg (below_size (bl HB.out)); have GE150 := gE hg (below_size (bl HB.out)); have NB149_150 := nL hg (blk_lt (bk BK149.out)); have NB150_149 := nG hg (blk_lt (bk BK149.out)); replace BK149 := aM (bB (bk BK149.out) hb); replace HB := aM (bS (bl HB.out) hb); clear hb hbox hg; have hnb5 := NB149_150.out; have hnc5 := NB150_149.out; have hcz6 := cA11 BK149.out; have hcz7 := cA11 BK150.out))
  refine bodyPost_ret (results_cell_row rfl _ _ gb150 79 #[.bool a0_0, .bool a0_1, .int .i64 a0_2, .int .i64 a0_3, .int .i64 a0_4, .int .i64 a0_5, .int .i64 a0_6, .int .i64 a0_7, .int .i64 a0_8, .int .i64 a0_9, .bool (a0_9 == 0)] (0, 0) _ rfl (pA11 (fm BK150.out)) Try.underlying79 rfl (by kernel_rfl)) rfl ?_
  exact ⟨xW, bl HB.out⟩
 rw [if_neg c2] at H
 have c2b0 : (a0_8 == 1) = false := beq_eq_false_iff_ne.mpr c2
 have c2b1 : (a0_8 != 1) = true := bne_iff_ne.mpr c2
 by_cases c8 : a0_8 = 2
 case neg =>
  rw [if_neg c8] at H
  have c8b0 : (a0_8 == 2) = false := beq_eq_false_iff_ne.mpr c8
  have c8b1 : (a0_8 != 2) = true := bne_iff_ne.mpr c8
  simp only [Option.some.injEq, Prod.mk.injEq] at H
  obtain ⟨rfl, rfl, rfl, rfl, rfl, rfl, rfl, rfl, rfl, rfl, rfl⟩ := H
  go_enter Try.func142, Try.ntmps142
  go_wp2_with (first | ((with_reducible refine gD (N := 1) rfl ?_); refine bE (N := 1) (cs := #[.bool a0_0, .bool a0_1, .int .i64 a0_2, .int .i64 a0_3, .int .i64 a0_4, .int .i64 a0_5, .int .i64 a0_6, .int .i64 a0_7, .int .i64 a0_8, .int .i64 a0_9, .bool a0_10]) (t := 79) ?_; intro gb149 hg w14 hbox hb; have BK149 := aM (hbox); have GW149 := gE hg (below_size (bl HB.out)); have GE149 := gE hg (below_size (bl HB.out)); replace HB := aM (bS (bl HB.out) hb); clear hb hbox hg) | ((with_reducible refine gD (N := 2) rfl ?_); refine bE (N := 2) (cs := #[.bool false, .bool false, .int .i64 0, .int .i64 0, .int .i64 0, .int .i64 0, .int .i64 0, .int .i64 0, .int .i64 0, .int .i64 0, .bool false]) (t := 79) ?_; intro gb150 hg w15 hbox hb; have BK150 := aM (hbox); have GW150 := gE hg (below_size (bl HB.out)); have GE150 := gE hg (below_size (bl HB.out)); have NB149_150 := nL hg (blk_lt (bk BK149.out)); have NB150_149 := nG hg (blk_lt (bk BK149.out)); replace BK149 := aM (bB (bk BK149.out) hb); replace HB := aM (bS (bl HB.out) hb); clear hb hbox hg; have hnb16 := NB149_150.out; have hnc16 := NB150_149.out; have hcz17 := cA11 BK149.out; have hcz18 := cA11 BK150.out))
  refine bodyPost_ret (results_cell_row rfl _ _ gb150 79 #[.bool a0_0, .bool a0_1, .int .i64 a0_2, .int .i64 a0_3, .int .i64 a0_4, .int .i64 a0_5, .int .i64 a0_6, .int .i64 a0_7, .int .i64 a0_8, .int .i64 a0_9, .bool false] (0, 0) _ rfl (pA11 (fm BK150.out)) Try.underlying79 rfl (by kernel_rfl)) rfl ?_
  exact ⟨xW, bl HB.out⟩
 rw [if_pos c8] at H
 have c8b0 : (a0_8 == 2) = true := beq_iff_eq.mpr c8
 have c8b1 : (a0_8 != 2) = false := bne_eq_false_iff_eq.mpr c8
 clear c8
 simp only [Option.some.injEq, Prod.mk.injEq] at H
 obtain ⟨rfl, rfl, rfl, rfl, rfl, rfl, rfl, rfl, rfl, rfl, rfl⟩ := H
 go_enter Try.func142, Try.ntmps142
 go_wp2_with (first | ((with_reducible refine gD (N := 1) rfl ?_); refine bE (N := 1) (cs := #[.bool a0_0, .bool a0_1, .int .i64 a0_2, .int .i64 a0_3, .int .i64 a0_4, .int .i64 a0_5, .int .i64 a0_6, .int .i64 a0_7, .int .i64 a0_8, .int .i64 a0_9, .bool a0_10]) (t := 79) ?_; intro gb149 hg w9 hbox hb; have BK149 := aM (hbox); have GW149 := gE hg (below_size (bl HB.out)); have GE149 := gE hg (below_size (bl HB.out)); replace HB := aM (bS (bl HB.out) hb); clear hb hbox hg) | ((with_reducible refine gD (N := 2) rfl ?_); refine bE (N := 2) (cs := #[.bool false, .bool false, .int .i64 0, .int .i64 0, .int .i64 0, .int .i64 0, .int .i64 0, .int .i64 0, .int .i64 0, .int .i64 0, .bool false]) (t := 79) ?_; intro gb150 hg w10 hbox hb; have BK150 := aM (hbox); have GW150 := gE hg (below_size (bl HB.out)); have GE150 := gE hg (below_size (bl HB.out)); have NB149_150 := nL hg (blk_lt (bk BK149.out)); have NB150_149 := nG hg (blk_lt (bk BK149.out)); replace BK149 := aM (bB (bk BK149.out) hb); replace HB := aM (bS (bl HB.out) hb); clear hb hbox hg; have hnb11 := NB149_150.out; have hnc11 := NB150_149.out; have hcz12 := cA11 BK149.out; have hcz13 := cA11 BK150.out))
 refine bodyPost_ret (results_cell_row rfl _ _ gb150 79 #[.bool a0_0, .bool a0_1, .int .i64 a0_2, .int .i64 a0_3, .int .i64 a0_4, .int .i64 a0_5, .int .i64 a0_6, .int .i64 a0_7, .int .i64 a0_8, .int .i64 a0_9, .bool (a0_9 == 0)] (0, 0) _ rfl (pA11 (fm BK150.out)) Try.underlying79 rfl (by kernel_rfl)) rfl ?_
 exact ⟨xW, bl HB.out⟩

end Go.Proofs.Ythmijfekdeagpaa.PFnExactDecide
