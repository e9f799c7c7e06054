/- Of the proof of laws.FnExactDecide: a part. No condition beyond what its theorems say. -/
import Derived.Test.YthmijfekdeagpaaVFnExactDecideWTight
import Derived.Test.YthmijfekdeagpaaVFnExactDecidePx0
import Derived.Test.YthmijfekdeagpaaVFnExactDecidePx4
namespace Go.Proofs.Ythmijfekdeagpaa.PFnExactDecide
open Go.RowKit Go.Proofs.YthmijfekdeagpaaW.PrintWords Go.Proofs.YthmijfekdeagpaaW.PrintLast Go.Proofs.YthmijfekdeagpaaW.PrintMore
attribute [local go_sem] max2_int min2_int max_two min_two max_three min_three max_four min_four   -- for this text's walks alone
set_option linter.unusedVariables false
set_option linter.unusedSimpArgs false

mutual
def spec_RootPort.l0 : Nat → Int → Int → Int → List (S79) → Option (Int × Bool)
 | 0, _, _, _, _ => none
 | k + 1, x4, x5, x128000, x128001 => if x5 < (x128001.length : Int) then ((spec_BridgeOk.f k x128000 x128001).bind fun t128 => (spec_RootPort.j1 k x4 x5 t128 x128000 x128001)) else (spec_RootPort.j1 k x4 x5 false x128000 x128001)
def spec_RootPort.j1 : Nat → Int → Int → Bool → Int → List (S79) → Option (Int × Bool)
 | 0, _, _, _, _, _ => none
 | k + 1, x4, x5, x15, x128000, x128001 => if x15 = true then (if 0 ≤ x5 then (if x5 < (x128001.length : Int) then (if ((rd_T79 x128001 x5).f1 = true) then (if ((rd_T79 x128001 x5).f2.f2) = x128000 then (spec_RootPort.j2 k x4 x5 true x128000 x128001 ((rd_T79 x128001 x5).f0) ((rd_T79 x128001 x5).f1) ((rd_T79 x128001 x5).f2.f0) ((rd_T79 x128001 x5).f2.f1) ((rd_T79 x128001 x5).f2.f2) ((rd_T79 x128001 x5).f2.f3) ((rd_T79 x128001 x5).f3) ((rd_T79 x128001 x5).f4) ((rd_T79 x128001 x5).f5) ((rd_T79 x128001 x5).f6) ((rd_T79 x128001 x5).f7)) else (if ((rd_T79 x128001 x5).f2.f0) ≥ x128000 then (spec_RootPort.j2 k x4 x5 true x128000 x128001 ((rd_T79 x128001 x5).f0) ((rd_T79 x128001 x5).f1) ((rd_T79 x128001 x5).f2.f0) ((rd_T79 x128001 x5).f2.f1) ((rd_T79 x128001 x5).f2.f2) ((rd_T79 x128001 x5).f2.f3) ((rd_T79 x128001 x5).f3) ((rd_T79 x128001 x5).f4) ((rd_T79 x128001 x5).f5) ((rd_T79 x128001 x5).f6) ((rd_T79 x128001 x5).f7)) else (if ((rd_T79 x128001 x5).f2.f1) ≥ 20 then (spec_RootPort.j2 k x4 x5 true x128000 x128001 ((rd_T79 x128001 x5).f0) ((rd_T79 x128001 x5).f1) ((rd_T79 x128001 x5).f2.f0) ((rd_T79 x128001 x5).f2.f1) ((rd_T79 x128001 x5).f2.f2) ((rd_T79 x128001 x5).f2.f3) ((rd_T79 x128001 x5).f3) ((rd_T79 x128001 x5).f4) ((rd_T79 x128001 x5).f5) ((rd_T79 x128001 x5).f6) ((rd_T79 x128001 x5).f7)) else (spec_RootPort.j2 k x4 x5 (decide (((rd_T79 x128001 x5).f3) ≥ 8)) x128000 x128001 ((rd_T79 x128001 x5).f0) ((rd_T79 x128001 x5).f1) ((rd_T79 x128001 x5).f2.f0) ((rd_T79 x128001 x5).f2.f1) ((rd_T79 x128001 x5).f2.f2) ((rd_T79 x128001 x5).f2.f3) ((rd_T79 x128001 x5).f3) ((rd_T79 x128001 x5).f4) ((rd_T79 x128001 x5).f5) ((rd_T79 x128001 x5).f6) ((rd_T79 x128001 x5).f7))))) else (spec_RootPort.j2 k x4 x5 true x128000 x128001 ((rd_T79 x128001 x5).f0) ((rd_T79 x128001 x5).f1) ((rd_T79 x128001 x5).f2.f0) ((rd_T79 x128001 x5).f2.f1) ((rd_T79 x128001 x5).f2.f2) ((rd_T79 x128001 x5).f2.f3) ((rd_T79 x128001 x5).f3) ((rd_T79 x128001 x5).f4) ((rd_T79 x128001 x5).f5) ((rd_T79 x128001 x5).f6) ((rd_T79 x128001 x5).f7))) else (none)) else (none)) else (some (x4, decide (x4 ≥ 0)))
def spec_RootPort.j2 : Nat → Int → Int → Bool → Int → List (S79) → Bool → Bool → Int → Int → Int → Int → Int → Int → Int → Int → Bool → Option (Int × Bool)
 | 0, _, _, _, _, _, _, _, _, _, _, _, _, _, _, _, _ => none
 | k + 1, x4, x5, x52, x128000, x128001, x131000, x131001, x131002, x131003, x131004, x131005, x131006, x131007, x131008, x131009, x131010 => if x52 = true then (spec_RootPort.l0 k x4 (wrap64 (x5 + 1)) x128000 x128001) else (if x4 < 0 then (spec_RootPort.l0 k x5 (wrap64 (x5 + 1)) x128000 x128001) else (if 0 ≤ x4 then (if x4 < (x128001.length : Int) then ((spec_Better.f x131002 x131003 x131004 x131005 ((rd_T79 x128001 x4).f2.f0) ((rd_T79 x128001 x4).f2.f1) ((rd_T79 x128001 x4).f2.f2) ((rd_T79 x128001 x4).f2.f3)).bind fun t132 => (if t132 = true then (spec_RootPort.l0 k x5 (wrap64 (x5 + 1)) x128000 x128001) else (spec_RootPort.l0 k x4 (wrap64 (x5 + 1)) x128000 x128001))) else (none)) else (none)))
end
def spec_RootPort.f (k : Nat) (a0_0 : Int) (l0_1 : List (S79)) : Option (Int × Bool) := spec_RootPort.l0 k (-1) 0 a0_0 l0_1
theorem spec_RootPort.mono_l : ∀ k, (∀ y0 y1 y2 y3, LeO (spec_RootPort.l0 k y0 y1 y2 y3) (spec_RootPort.l0 (k + 1) y0 y1 y2 y3)) ∧ (∀ y0 y1 y2 y3 y4, LeO (spec_RootPort.j1 k y0 y1 y2 y3 y4) (spec_RootPort.j1 (k + 1) y0 y1 y2 y3 y4)) ∧ (∀ y0 y1 y2 y3 y4 y5 y6 y7 y8 y9 y10 y11 y12 y13 y14 y15, LeO (spec_RootPort.j2 k y0 y1 y2 y3 y4 y5 y6 y7 y8 y9 y10 y11 y12 y13 y14 y15) (spec_RootPort.j2 (k + 1) y0 y1 y2 y3 y4 y5 y6 y7 y8 y9 y10 y11 y12 y13 y14 y15))
 | 0 => ⟨fun _ _ _ _ r h => by simp [spec_RootPort.l0] at h, fun _ _ _ _ _ r h => by simp [spec_RootPort.j1] at h, fun _ _ _ _ _ _ _ _ _ _ _ _ _ _ _ _ r h => by simp [spec_RootPort.j2] at h⟩
 | k + 1 => by
  obtain ⟨ih0, ih1, ih2⟩ := spec_RootPort.mono_l k
  refine ⟨?_, ?_, ?_⟩
  ·intro y0 y1 y2 y3
   unfold spec_RootPort.l0
   repeat' first
   | (with_reducible exact ih0 _ _ _ _)
   | (with_reducible exact ih1 _ _ _ _ _)
   | (with_reducible exact ih2 _ _ _ _ _ _ _ _ _ _ _ _ _ _ _ _)
   | (with_reducible exact spec_BridgeOk.mono _ _ _)
   | (with_reducible exact LeO.refl _)
   | (with_reducible exact LeO.none _)
   | (with_reducible refine LeO.ite ?_ ?_)
   | (with_reducible refine LeO.bind ?_ (fun _ => ?_))
   | exact ih0 _ _ _ _
   | exact ih1 _ _ _ _ _
   | exact ih2 _ _ _ _ _ _ _ _ _ _ _ _ _ _ _ _
   | exact spec_BridgeOk.mono _ _ _
   | exact LeO.none _
   | refine LeO.ite ?_ ?_
   | refine LeO.bind ?_ (fun _ => ?_)
  ·intro y0 y1 y2 y3 y4
   unfold spec_RootPort.j1
   repeat' first
   | (with_reducible exact ih0 _ _ _ _)
   | (with_reducible exact ih1 _ _ _ _ _)
   | (with_reducible exact ih2 _ _ _ _ _ _ _ _ _ _ _ _ _ _ _ _)
   | (with_reducible exact spec_BridgeOk.mono _ _ _)
   | (with_reducible exact LeO.refl _)
   | (with_reducible exact LeO.none _)
   | (with_reducible refine LeO.ite ?_ ?_)
   | (with_reducible refine LeO.bind ?_ (fun _ => ?_))
   | exact ih0 _ _ _ _
   | exact ih1 _ _ _ _ _
   | exact ih2 _ _ _ _ _ _ _ _ _ _ _ _ _ _ _ _
   | exact spec_BridgeOk.mono _ _ _
   | exact LeO.none _
   | refine LeO.ite ?_ ?_
   | refine LeO.bind ?_ (fun _ => ?_)
  ·intro y0 y1 y2 y3 y4 y5 y6 y7 y8 y9 y10 y11 y12 y13 y14 y15
   unfold spec_RootPort.j2
   repeat' first
   | (with_reducible exact ih0 _ _ _ _)
   | (with_reducible exact ih1 _ _ _ _ _)
   | (with_reducible exact ih2 _ _ _ _ _ _ _ _ _ _ _ _ _ _ _ _)
   | (with_reducible exact spec_BridgeOk.mono _ _ _)
   | (with_reducible exact LeO.refl _)
   | (with_reducible exact LeO.none _)
   | (with_reducible refine LeO.ite ?_ ?_)
   | (with_reducible refine LeO.bind ?_ (fun _ => ?_))
   | exact ih0 _ _ _ _
   | exact ih1 _ _ _ _ _
   | exact ih2 _ _ _ _ _ _ _ _ _ _ _ _ _ _ _ _
   | exact spec_BridgeOk.mono _ _ _
   | exact LeO.none _
   | refine LeO.ite ?_ ?_
   | refine LeO.bind ?_ (fun _ => ?_)
theorem spec_RootPort.mono : ∀ a0 a1 k, LeO (spec_RootPort.f k a0 a1) (spec_RootPort.f (k + 1) a0 a1) := by
 intro a0 a1 k
 obtain ⟨ih0, ih1, ih2⟩ := spec_RootPort.mono_l k
 unfold spec_RootPort.f
 repeat' first
   | (with_reducible exact ih0 _ _ _ _)
   | (with_reducible exact ih1 _ _ _ _ _)
   | (with_reducible exact ih2 _ _ _ _ _ _ _ _ _ _ _ _ _ _ _ _)
   | (with_reducible exact spec_BridgeOk.mono _ _ _)
   | (with_reducible exact LeO.refl _)
   | (with_reducible exact LeO.none _)
   | (with_reducible refine LeO.ite ?_ ?_)
   | (with_reducible refine LeO.bind ?_ (fun _ => ?_))
   | exact ih0 _ _ _ _
   | exact ih1 _ _ _ _ _
   | exact ih2 _ _ _ _ _ _ _ _ _ _ _ _ _ _ _ _
   | exact spec_BridgeOk.mono _ _ _
   | exact LeO.none _
   | refine LeO.ite ?_ ?_
   | refine LeO.bind ?_ (fun _ => ?_)
def spec_RootPort.T7 : Bool × List (List Nat × List Nat) := (true, [([], []), ([0], [0]), ([1], [1]), ([2], [2]), ([3, 2], [2, 3]), ([2], [2]), ([5, 2], [2, 5]), ([2], [2]), ([6, 7, 2], [2, 6, 7]), ([8, 2], [2, 8]), ([9, 2], [2, 9]), ([4, 10, 2, 2], [2, 4, 10]), ([2, 11], [2, 11])])
def spec_RootPort.B7 : List Nat := [0, 1, 3, 7, 15, 7, 39, 7, 231, 487, 999, 2047, 4095]
theorem spec_RootPort.tab7 : rtab .any (opsOf Try.f36 7) = spec_RootPort.T7 := by kernel_rfl
theorem spec_RootPort.bits7 : waitsOk spec_RootPort.T7.2 spec_RootPort.B7 = true := by kernel_rfl
set_option maxHeartbeats 60000000 in
set_option maxRecDepth 100000 in
theorem spec_RootPort.calls (k : Nat) (a0_0 : Int) (A0_1 : Option Addr) (c0_1 : Nat) (l0_1 : List (S79)) (r1 : Int) (r2 : Bool) (w : World) (hr0_1 : Kd.C k79 w A0_1 l0_1.length l0_1) (hc0_1 : l0_1.length ≤ c0_1) (h : spec_RootPort.f k a0_0 l0_1 = some (r1, r2)) :
  Calls Try.prog 36 #[.agg #[.int .i64 a0_0, .slice A0_1 l0_1.length c0_1]] w fun e w' => e = .returned (.tuple #[.int .i64 r1, .bool r2]) ∧ Below w.heap.size w w' := by
 have hu28 := Try.underlying28
 have hu79 := Try.underlying79
 have hu73 := Try.underlying73
 have HR0_1 := aM hr0_1
 have HC0_1 := aM hc0_1
 clear hr0_1 hc0_1
 have HB := aM (Below.refl w.heap.size w)
 have H : (spec_RootPort.l0 k (-1) 0 a0_0 l0_1) = some (r1, r2) := h
 clear h
 have H' := aM H
 clear H
 go_enter Try.func36, Try.ntmps36
 go_wp2_with (first | ((with_reducible refine gD (N := 1) rfl ?_); refine bE (N := 1) (cs := #[.int .i64 a0_0, .slice A0_1 l0_1.length c0_1]) (t := 28) ?_; intro gb127 hg w2 hbox hb; have BK127 := aM (hbox); have GW127 := gE hg (below_size (bl HB.out)); have GE127 := gE hg (below_size (bl HB.out)); replace HB := aM (bS (bl HB.out) hb); clear hb hbox hg))
 go_loopg [4, 5] k (fun kq v4 v5 w' => ∃ (x4_1 : Int) (x5_1 : Int), v4 = .int .i64 x4_1 ∧ v5 = .int .i64 x5_1 ∧ Aside0 (spec_RootPort.l0 kq x4_1 x5_1 a0_0 l0_1 = some (r1, r2)) ∧ Aside0 (kq ≤ k) ∧ Aside0 (w'.heap[gb127]? = some (.cells #[.int .i64 a0_0, (.slice A0_1 l0_1.length c0_1)] 28 (0, 0))) ∧ Aside0 (Below w.heap.size w w'))
 case atStart => exact ⟨((-1)), (0), xE, xE, H', ⟨Nat.le_refl _⟩, ⟨by (with_reducible repeat (first | refine blk_drewN ?_ _ | refine blk_drew ?_ | refine blk_alloc ?_ _)); exact BK127.out⟩, ⟨bl HB.out⟩⟩
 case round =>
  clear H'
  try clear p2
  obtain ⟨x4_1, x5_1, rfl, rfl, HA, HK1, BK127, HB⟩ := hrel
  cases gk with
  | zero => exact absurd HA.out (by simp [spec_RootPort.l0])
  | succ k1 =>
   have H := HA.out
   clear HA
   simp only [spec_RootPort.l0] at H
   have HC3 := aM H
   clear H
   go_upto_region 3 with (fail)
   go_cut [15] (fun v15 wc => ∃ (kq : Nat) (x15_2 : Bool), v15 = .bool x15_2 ∧ Aside0 (spec_RootPort.j1 kq x4_1 x5_1 x15_2 a0_0 l0_1 = some (r1, r2)) ∧ Aside0 (kq ≤ k1) ∧ Aside0 (wc.heap[gb127]? = some (.cells #[.int .i64 a0_0, (.slice A0_1 l0_1.length c0_1)] 28 (0, 0))) ∧ Aside0 (Below w.heap.size w wc))
   case first =>
    have H := HC3.out
    clear HC3
    by_cases c4 : x5_1 < (l0_1.length : Int)
    case neg =>
     rw [if_neg c4] at H
     have c4b0 : decide (x5_1 < (l0_1.length : Int)) = false := decide_eq_false c4
     clear c4
     (first | rw [c4b0] | (simp only [i64_w, i32_w]; rw [c4b0]) | skip)
     have H' := aM H
     clear H
     have hcz8 := cA2 BK127.out
     go_wp2
     go_meet
     case rel => (try rw [← Nbq17.out]); exact ⟨_, (false), xE, H', ⟨by have := HK1.out; first | omega | exact Nat.le_refl _⟩, ⟨by (with_reducible repeat (first | refine blk_drewN ?_ _ | refine blk_drew ?_ | refine blk_alloc ?_ _)); exact BK127.out⟩, ⟨bl HB.out⟩⟩
    rw [if_pos c4] at H
    have c4b0 : decide (x5_1 < (l0_1.length : Int)) = true := decide_eq_true c4
    clear c4
    (first | rw [c4b0] | (simp only [i64_w, i32_w]; rw [c4b0]) | skip)
    replace H := Option.bind_eq_some_iff.mp H
    obtain ⟨t128, A50, H⟩ := H
    replace H : (spec_RootPort.j1 k1 x4_1 x5_1 t128 a0_0 l0_1) = some (r1, r2) := H
    have A5 := aM A50
    clear A50
    have H' := aM H
    clear H
    have hcz6 := cA2 BK127.out
    go_wp2_with (first | (go_at_call 46; (with_reducible refine (spec_BridgeOk.calls k1 a0_0 _ _ l0_1 t128 _ ?side1 ?side2 A5.out).mono ?_); (case side1 => repeat (first | exact (cB HR0_1.out HB.out) | (with_reducible refine Kd.C_alloc ?_ _) | (with_reducible refine Kd.C_drewN ?_ _) | (with_reducible refine Kd.C_drew ?_))); (case side2 => exact HC0_1.out); rintro e w7 ⟨rfl, hb⟩; replace BK127 := aM (bB (bk BK127.out) hb); replace HB := aM (bS (bl HB.out) hb); (try clear hb)))
    go_meet
    case rel => (try rw [← Nbq17.out]); exact ⟨_, (t128), xE, H', ⟨by have := HK1.out; first | omega | exact Nat.le_refl _⟩, ⟨by (with_reducible repeat (first | refine blk_drewN ?_ _ | refine blk_drew ?_ | refine blk_alloc ?_ _)); exact BK127.out⟩, ⟨bl HB.out⟩⟩
   case rest =>
    clear HC3
    try clear p2
    try clear c3
    try clear c4
    try clear c4b0
    try clear hcz6
    try clear hcz6_1
    try clear hcz8
    try clear hcz8_1
    try clear hfz6_0
    try clear hfz6_1
    try clear hfz8_0
    try clear hfz8_1
    try clear p2
    obtain ⟨kq, x15_2, rfl, HA, HJ2, BK127, HB⟩ := hcut
    cases kq with
    | zero => exact absurd HA.out (by simp [spec_RootPort.j1])
    | succ kj2 =>
     have H := HA.out
     clear HA
     simp only [spec_RootPort.j1] at H
     by_cases c9 : x15_2 = true
     case neg =>
      replace c9 := Bool.eq_false_iff.mpr c9
      subst c9
      have H1 : (some (x4_1, decide (x4_1 ≥ 0))) = some (r1, r2) := by rw [if_neg (show ¬ (false = true) by decide)] at H; exact H
      clear H
      have H := H1
      clear H1
      simp only [Option.some.injEq, Prod.mk.injEq] at H
      obtain ⟨rfl, rfl⟩ := H
      go_wp2
      go_ret2
      exact ⟨xW, bl HB.out⟩
     subst c9
     have H1 : (if 0 ≤ x5_1 then (if x5_1 < (l0_1.length : Int) then (if ((rd_T79 l0_1 x5_1).f1 = true) then (if ((rd_T79 l0_1 x5_1).f2.f2) = a0_0 then (spec_RootPort.j2 kj2 x4_1 x5_1 true a0_0 l0_1 ((rd_T79 l0_1 x5_1).f0) ((rd_T79 l0_1 x5_1).f1) ((rd_T79 l0_1 x5_1).f2.f0) ((rd_T79 l0_1 x5_1).f2.f1) ((rd_T79 l0_1 x5_1).f2.f2) ((rd_T79 l0_1 x5_1).f2.f3) ((rd_T79 l0_1 x5_1).f3) ((rd_T79 l0_1 x5_1).f4) ((rd_T79 l0_1 x5_1).f5) ((rd_T79 l0_1 x5_1).f6) ((rd_T79 l0_1 x5_1).f7)) else (if ((rd_T79 l0_1 x5_1).f2.f0) ≥ a0_0 then (spec_RootPort.j2 kj2 x4_1 x5_1 true a0_0 l0_1 ((rd_T79 l0_1 x5_1).f0) ((rd_T79 l0_1 x5_1).f1) ((rd_T79 l0_1 x5_1).f2.f0) ((rd_T79 l0_1 x5_1).f2.f1) ((rd_T79 l0_1 x5_1).f2.f2) ((rd_T79 l0_1 x5_1).f2.f3) ((rd_T79 l0_1 x5_1).f3) ((rd_T79 l0_1 x5_1).f4) ((rd_T79 l0_1 x5_1).f5) ((rd_T79 l0_1 x5_1).f6) ((rd_T79 l0_1 x5_1).f7)) else (if ((rd_T79 l0_1 x5_1).f2.f1) ≥ 20 then (spec_RootPort.j2 kj2 x4_1 x5_1 true a0_0 l0_1 ((rd_T79 l0_1 x5_1).f0) ((rd_T79 l0_1 x5_1).f1) ((rd_T79 l0_1 x5_1).f2.f0) ((rd_T79 l0_1 x5_1).f2.f1) ((rd_T79 l0_1 x5_1).f2.f2) ((rd_T79 l0_1 x5_1).f2.f3) ((rd_T79 l0_1 x5_1).f3) ((rd_T79 l0_1 x5_1).f4) ((rd_T79 l0_1 x5_1).f5) ((rd_T79 l0_1 x5_1).f6) ((rd_T79 l0_1 x5_1).f7)) else (spec_RootPort.j2 kj2 x4_1 x5_1 (decide (((rd_T79 l0_1 x5_1).f3) ≥ 8)) a0_0 l0_1 ((rd_T79 l0_1 x5_1).f0) ((rd_T79 l0_1 x5_1).f1) ((rd_T79 l0_1 x5_1).f2.f0) ((rd_T79 l0_1 x5_1).f2.f1) ((rd_T79 l0_1 x5_1).f2.f2) ((rd_T79 l0_1 x5_1).f2.f3) ((rd_T79 l0_1 x5_1).f3) ((rd_T79 l0_1 x5_1).f4) ((rd_T79 l0_1 x5_1).f5) ((rd_T79 l0_1 x5_1).f6) ((rd_T79 l0_1 x5_1).f7))))) else (spec_RootPort.j2 kj2 x4_1 x5_1 true a0_0 l0_1 ((rd_T79 l0_1 x5_1).f0) ((rd_T79 l0_1 x5_1).f1) ((rd_T79 l0_1 x5_1).f2.f0) ((rd_T79 l0_1 x5_1).f2.f1) ((rd_T79 l0_1 x5_1).f2.f2) ((rd_T79 l0_1 x5_1).f2.f3) ((rd_T79 l0_1 x5_1).f3) ((rd_T79 l0_1 x5_1).f4) ((rd_T79 l0_1 x5_1).f5) ((rd_T79 l0_1 x5_1).f6) ((rd_T79 l0_1 x5_1).f7))) else (none)) else (none)) = some (r1, r2) := by rw [if_pos rfl] at H; exact H
     clear H
     have H := H1
     clear H1
     by_cases c10 : 0 ≤ x5_1
     case neg =>
      rw [if_neg c10] at H
      exact absurd H (by simp)
     rw [if_pos c10] at H
     have c10b0 : decide (0 ≤ x5_1) = true := decide_eq_true c10
     clear c10
     by_cases c11 : x5_1 < (l0_1.length : Int)
     case neg =>
      rw [if_neg c11] at H
      exact absurd H (by simp)
     rw [if_pos c11] at H
     have c11b0 : decide (x5_1 < (l0_1.length : Int)) = true := decide_eq_true c11
     clear c11
     have HC12 := aM H
     clear H
     have hcz13 := cA2 BK127.out
     have p129 : 0 ≤ (x5_1 : Int) := of_decide_eq_true (by first | (with_reducible assumption) | assumption)
     have q129 : x5_1 < (l0_1.length : Int) := of_decide_eq_true (by first | (with_reducible assumption) | assumption)
     obtain ⟨ad129, e129, hx129_0, hx129_1, hx129_2, hx129_3, hx129_4, hx129_5, hx129_6, hx129_7, hx129_8, hx129_9, hx129_10⟩ := at_T79 HR0_1.out x5_1 p129 q129
     cases e129
     replace hx129_0 := xB HB hx129_0
     replace hx129_1 := xB HB hx129_1
     replace hx129_2 := xB HB hx129_2
     replace hx129_3 := xB HB hx129_3
     replace hx129_4 := xB HB hx129_4
     replace hx129_5 := xB HB hx129_5
     replace hx129_6 := xB HB hx129_6
     replace hx129_7 := xB HB hx129_7
     replace hx129_8 := xB HB hx129_8
     replace hx129_9 := xB HB hx129_9
     replace hx129_10 := xB HB hx129_10
     replace p129 := eq_true p129
     replace q129 := eq_true q129
     go_upto_region 6 with (first | ((with_reducible refine gD (N := 6) rfl ?_); refine bE (N := 6) (cs := #[.bool false, .bool false, .int .i64 0, .int .i64 0, .int .i64 0, .int .i64 0, .int .i64 0, .int .i64 0, .int .i64 0, .int .i64 0, .bool false]) (t := 79) ?_; intro gb130 hg w14 hbox hb; have BK130 := aM (hbox); have GW130 := gE hg (below_size (bl HB.out)); have GE130 := gE hg (below_size (bl HB.out)); have NB127_130 := nL hg (blk_lt (bk BK127.out)); have NB130_127 := nG hg (blk_lt (bk BK127.out)); replace BK127 := aM (bB (bk BK127.out) hb); replace HB := aM (bS (bl HB.out) hb); clear hb hbox hg; have hnb15 := NB130_127.out; have hnc15 := NB127_130.out; have hcz16 := cA11 BK130.out))
     (try simp only [Act.put, sA, sZ, sS])
     go_cut [52] (fun v52 wc => ∃ (kq : Nat) (x52_11 : Bool), v52 = .bool x52_11 ∧ Aside0 (spec_RootPort.j2 kq x4_1 x5_1 x52_11 a0_0 l0_1 ((rd_T79 l0_1 x5_1).f0) ((rd_T79 l0_1 x5_1).f1) ((rd_T79 l0_1 x5_1).f2.f0) ((rd_T79 l0_1 x5_1).f2.f1) ((rd_T79 l0_1 x5_1).f2.f2) ((rd_T79 l0_1 x5_1).f2.f3) ((rd_T79 l0_1 x5_1).f3) ((rd_T79 l0_1 x5_1).f4) ((rd_T79 l0_1 x5_1).f5) ((rd_T79 l0_1 x5_1).f6) ((rd_T79 l0_1 x5_1).f7) = some (r1, r2)) ∧ Aside0 (kq ≤ kj2) ∧ Aside0 (wc.heap[gb127]? = some (.cells #[.int .i64 a0_0, (.slice (some ad129) l0_1.length c0_1)] 28 (0, 0))) ∧ Aside0 (wc.heap[gb130]? = some (.cells #[.bool ((rd_T79 l0_1 x5_1).f0), .bool ((rd_T79 l0_1 x5_1).f1), .int .i64 ((rd_T79 l0_1 x5_1).f2.f0), .int .i64 ((rd_T79 l0_1 x5_1).f2.f1), .int .i64 ((rd_T79 l0_1 x5_1).f2.f2), .int .i64 ((rd_T79 l0_1 x5_1).f2.f3), .int .i64 ((rd_T79 l0_1 x5_1).f3), .int .i64 ((rd_T79 l0_1 x5_1).f4), .int .i64 ((rd_T79 l0_1 x5_1).f5), .int .i64 ((rd_T79 l0_1 x5_1).f6), .bool ((rd_T79 l0_1 x5_1).f7)] 79 (0, 0))) ∧ Aside0 (Below w.heap.size w wc))
     case first =>
      have H := HC12.out
      clear HC12
      obtain ⟨bq17, hbq17⟩ : ∃ b_ : Bool, b_ = ((rd_T79 l0_1 x5_1).f1) := ⟨_, rfl⟩
      replace H : (if (bq17 = true) then (if ((rd_T79 l0_1 x5_1).f2.f2) = a0_0 then (spec_RootPort.j2 kj2 x4_1 x5_1 true a0_0 l0_1 ((rd_T79 l0_1 x5_1).f0) bq17 ((rd_T79 l0_1 x5_1).f2.f0) ((rd_T79 l0_1 x5_1).f2.f1) ((rd_T79 l0_1 x5_1).f2.f2) ((rd_T79 l0_1 x5_1).f2.f3) ((rd_T79 l0_1 x5_1).f3) ((rd_T79 l0_1 x5_1).f4) ((rd_T79 l0_1 x5_1).f5) ((rd_T79 l0_1 x5_1).f6) ((rd_T79 l0_1 x5_1).f7)) else (if ((rd_T79 l0_1 x5_1).f2.f0) ≥ a0_0 then (spec_RootPort.j2 kj2 x4_1 x5_1 true a0_0 l0_1 ((rd_T79 l0_1 x5_1).f0) bq17 ((rd_T79 l0_1 x5_1).f2.f0) ((rd_T79 l0_1 x5_1).f2.f1) ((rd_T79 l0_1 x5_1).f2.f2) ((rd_T79 l0_1 x5_1).f2.f3) ((rd_T79 l0_1 x5_1).f3) ((rd_T79 l0_1 x5_1).f4) ((rd_T79 l0_1 x5_1).f5) ((rd_T79 l0_1 x5_1).f6) ((rd_T79 l0_1 x5_1).f7)) else (if ((rd_T79 l0_1 x5_1).f2.f1) ≥ 20 then (spec_RootPort.j2 kj2 x4_1 x5_1 true a0_0 l0_1 ((rd_T79 l0_1 x5_1).f0) bq17 ((rd_T79 l0_1 x5_1).f2.f0) ((rd_T79 l0_1 x5_1).f2.f1) ((rd_T79 l0_1 x5_1).f2.f2) ((rd_T79 l0_1 x5_1).f2.f3) ((rd_T79 l0_1 x5_1).f3) ((rd_T79 l0_1 x5_1).f4) ((rd_T79 l0_1 x5_1).f5) ((rd_T79 l0_1 x5_1).f6) ((rd_T79 l0_1 x5_1).f7)) else (spec_RootPort.j2 kj2 x4_1 x5_1 (decide (((rd_T79 l0_1 x5_1).f3) ≥ 8)) a0_0 l0_1 ((rd_T79 l0_1 x5_1).f0) bq17 ((rd_T79 l0_1 x5_1).f2.f0) ((rd_T79 l0_1 x5_1).f2.f1) ((rd_T79 l0_1 x5_1).f2.f2) ((rd_T79 l0_1 x5_1).f2.f3) ((rd_T79 l0_1 x5_1).f3) ((rd_T79 l0_1 x5_1).f4) ((rd_T79 l0_1 x5_1).f5) ((rd_T79 l0_1 x5_1).f6) ((rd_T79 l0_1 x5_1).f7))))) else (spec_RootPort.j2 kj2 x4_1 x5_1 true a0_0 l0_1 ((rd_T79 l0_1 x5_1).f0) bq17 ((rd_T79 l0_1 x5_1).f2.f0) ((rd_T79 l0_1 x5_1).f2.f1) ((rd_T79 l0_1 x5_1).f2.f2) ((rd_T79 l0_1 x5_1).f2.f3) ((rd_T79 l0_1 x5_1).f3) ((rd_T79 l0_1 x5_1).f4) ((rd_T79 l0_1 x5_1).f5) ((rd_T79 l0_1 x5_1).f6) ((rd_T79 l0_1 x5_1).f7))) = some (r1, r2) := by rw [← hbq17] at H; exact H
      have Nbq17 := aM hbq17
      clear hbq17
      (try rw [← Nbq17.out])
      by_cases c18 : (bq17 = true)
      case neg =>
       replace c18 := Bool.eq_false_iff.mpr c18
       subst c18
       have H1 : (spec_RootPort.j2 kj2 x4_1 x5_1 true a0_0 l0_1 ((rd_T79 l0_1 x5_1).f0) false ((rd_T79 l0_1 x5_1).f2.f0) ((rd_T79 l0_1 x5_1).f2.f1) ((rd_T79 l0_1 x5_1).f2.f2) ((rd_T79 l0_1 x5_1).f2.f3) ((rd_T79 l0_1 x5_1).f3) ((rd_T79 l0_1 x5_1).f4) ((rd_T79 l0_1 x5_1).f5) ((rd_T79 l0_1 x5_1).f6) ((rd_T79 l0_1 x5_1).f7)) = some (r1, r2) := by rw [if_neg (show ¬ (false = true) by decide)] at H; exact H
       clear H
       have H := H1
       clear H1
       have H' := aM H
       clear H
       have hnb34 := NB130_127.out
       have hnc34 := NB127_130.out
       have hcz35 := cA11 BK130.out
       go_wp2
       go_meet
       case rel => (try rw [← Nbq17.out]); exact ⟨_, (true), xE, H', ⟨by have := HK1.out; have := HJ2.out; first | omega | exact Nat.le_refl _⟩, ⟨fm BK127.out⟩, ⟨pA11 (fm BK130.out)⟩, ⟨bl HB.out⟩⟩
      subst c18
      have H1 : (if ((rd_T79 l0_1 x5_1).f2.f2) = a0_0 then (spec_RootPort.j2 kj2 x4_1 x5_1 true a0_0 l0_1 ((rd_T79 l0_1 x5_1).f0) true ((rd_T79 l0_1 x5_1).f2.f0) ((rd_T79 l0_1 x5_1).f2.f1) ((rd_T79 l0_1 x5_1).f2.f2) ((rd_T79 l0_1 x5_1).f2.f3) ((rd_T79 l0_1 x5_1).f3) ((rd_T79 l0_1 x5_1).f4) ((rd_T79 l0_1 x5_1).f5) ((rd_T79 l0_1 x5_1).f6) ((rd_T79 l0_1 x5_1).f7)) else (if ((rd_T79 l0_1 x5_1).f2.f0) ≥ a0_0 then (spec_RootPort.j2 kj2 x4_1 x5_1 true a0_0 l0_1 ((rd_T79 l0_1 x5_1).f0) true ((rd_T79 l0_1 x5_1).f2.f0) ((rd_T79 l0_1 x5_1).f2.f1) ((rd_T79 l0_1 x5_1).f2.f2) ((rd_T79 l0_1 x5_1).f2.f3) ((rd_T79 l0_1 x5_1).f3) ((rd_T79 l0_1 x5_1).f4) ((rd_T79 l0_1 x5_1).f5) ((rd_T79 l0_1 x5_1).f6) ((rd_T79 l0_1 x5_1).f7)) else (if ((rd_T79 l0_1 x5_1).f2.f1) ≥ 20 then (spec_RootPort.j2 kj2 x4_1 x5_1 true a0_0 l0_1 ((rd_T79 l0_1 x5_1).f0) true ((rd_T79 l0_1 x5_1).f2.f0) ((rd_T79 l0_1 x5_1).f2.f1) ((rd_T79 l0_1 x5_1).f2.f2) ((rd_T79 l0_1 x5_1).f2.f3) ((rd_T79 l0_1 x5_1).f3) ((rd_T79 l0_1 x5_1).f4) ((rd_T79 l0_1 x5_1).f5) ((rd_T79 l0_1 x5_1).f6) ((rd_T79 l0_1 x5_1).f7)) else (spec_RootPort.j2 kj2 x4_1 x5_1 (decide (((rd_T79 l0_1 x5_1).f3) ≥ 8)) a0_0 l0_1 ((rd_T79 l0_1 x5_1).f0) true ((rd_T79 l0_1 x5_1).f2.f0) ((rd_T79 l0_1 x5_1).f2.f1) ((rd_T79 l0_1 x5_1).f2.f2) ((rd_T79 l0_1 x5_1).f2.f3) ((rd_T79 l0_1 x5_1).f3) ((rd_T79 l0_1 x5_1).f4) ((rd_T79 l0_1 x5_1).f5) ((rd_T79 l0_1 x5_1).f6) ((rd_T79 l0_1 x5_1).f7))))) = some (r1, r2) := by rw [if_pos rfl] at H; exact H
      clear H
      have H := H1
      clear H1
      by_cases c19 : ((rd_T79 l0_1 x5_1).f2.f2) = a0_0
      case pos =>
       rw [if_pos c19] at H
       have c19b0 : (((rd_T79 l0_1 x5_1).f2.f2) == a0_0) = true := beq_iff_eq.mpr c19
       have c19b1 : (((rd_T79 l0_1 x5_1).f2.f2) != a0_0) = false := bne_eq_false_iff_eq.mpr c19
       clear c19
       have H' := aM H
       clear H
       have hnb20 := NB130_127.out
       have hnc20 := NB127_130.out
       have hcz21 := cA11 BK130.out
       have hcz22 := cA2 BK127.out
       go_wp2
       go_meet
       case rel => (try rw [← Nbq17.out]); exact ⟨_, (true), xE, H', ⟨by have := HK1.out; have := HJ2.out; first | omega | exact Nat.le_refl _⟩, ⟨fm BK127.out⟩, ⟨pA11 (fm BK130.out)⟩, ⟨bl HB.out⟩⟩
      rw [if_neg c19] at H
      have c19b0 : (((rd_T79 l0_1 x5_1).f2.f2) == a0_0) = false := beq_eq_false_iff_ne.mpr c19
      have c19b1 : (((rd_T79 l0_1 x5_1).f2.f2) != a0_0) = true := bne_iff_ne.mpr c19
      by_cases c23 : ((rd_T79 l0_1 x5_1).f2.f0) ≥ a0_0
      case pos =>
       rw [if_pos c23] at H
       have c23b0 : decide (a0_0 ≤ ((rd_T79 l0_1 x5_1).f2.f0)) = true := decide_eq_true c23
       clear c23
       have H' := aM H
       clear H
       have hnb24 := NB130_127.out
       have hnc24 := NB127_130.out
       have hcz25 := cA11 BK130.out
       have hcz26 := cA2 BK127.out
       go_wp2
       go_meet
       case rel => (try rw [← Nbq17.out]); exact ⟨_, (true), xE, H', ⟨by have := HK1.out; have := HJ2.out; first | omega | exact Nat.le_refl _⟩, ⟨fm BK127.out⟩, ⟨pA11 (fm BK130.out)⟩, ⟨bl HB.out⟩⟩
      rw [if_neg c23] at H
      have c23b0 : decide (a0_0 ≤ ((rd_T79 l0_1 x5_1).f2.f0)) = false := decide_eq_false c23
      clear c23
      by_cases c27 : ((rd_T79 l0_1 x5_1).f2.f1) ≥ 20
      case pos =>
       rw [if_pos c27] at H
       have c27b0 : decide (20 ≤ ((rd_T79 l0_1 x5_1).f2.f1)) = true := decide_eq_true c27
       clear c27
       have H' := aM H
       clear H
       have hnb28 := NB130_127.out
       have hnc28 := NB127_130.out
       have hcz29 := cA11 BK130.out
       have hcz30 := cA2 BK127.out
       go_wp2
       go_meet
       case rel => (try rw [← Nbq17.out]); exact ⟨_, (true), xE, H', ⟨by have := HK1.out; have := HJ2.out; first | omega | exact Nat.le_refl _⟩, ⟨fm BK127.out⟩, ⟨pA11 (fm BK130.out)⟩, ⟨bl HB.out⟩⟩
      rw [if_neg c27] at H
      have c27b0 : decide (20 ≤ ((rd_T79 l0_1 x5_1).f2.f1)) = false := decide_eq_false c27
      clear c27
      have H' := aM H
      clear H
      have hnb31 := NB130_127.out
      have hnc31 := NB127_130.out
      have hcz32 := cA11 BK130.out
      have hcz33 := cA2 BK127.out
      go_wp2
      go_meet
      case rel => (try rw [← Nbq17.out]); exact ⟨_, (decide (((rd_T79 l0_1 x5_1).f3) ≥ 8)), xE, H', ⟨by have := HK1.out; have := HJ2.out; first | omega | exact Nat.le_refl _⟩, ⟨fm BK127.out⟩, ⟨pA11 (fm BK130.out)⟩, ⟨bl HB.out⟩⟩
     case rest =>
      clear HC12
      try clear c1
      try clear p1
      try clear q1
      try clear hx1
      try clear c2
      try clear p2
      try clear c3
      try clear c4
      try clear c4b0
      try clear c9
      try clear c10
      try clear c10b0
      try clear c11
      try clear c11b0
      try clear p12
      try clear q12
      try clear hx12
      try clear c15
      try clear q17
      try clear c18
      try clear c19
      try clear c19b0
      try clear c19b1
      try clear c20
      try clear c23
      try clear c23b0
      try clear c24
      try clear c27
      try clear c27b0
      try clear c28
      try clear c31
      try clear c34
      try clear hcz13
      try clear hcz13_1
      try clear hcz16
      try clear hcz21
      try clear hcz21_1
      try clear hcz21_10
      try clear hcz21_2
      try clear hcz21_3
      try clear hcz21_4
      try clear hcz21_5
      try clear hcz21_6
      try clear hcz21_7
      try clear hcz21_8
      try clear hcz21_9
      try clear hcz22
      try clear hcz22_1
      try clear hcz25
      try clear hcz25_1
      try clear hcz25_10
      try clear hcz25_2
      try clear hcz25_3
      try clear hcz25_4
      try clear hcz25_5
      try clear hcz25_6
      try clear hcz25_7
      try clear hcz25_8
      try clear hcz25_9
      try clear hcz26
      try clear hcz26_1
      try clear hcz29
      try clear hcz29_1
      try clear hcz29_10
      try clear hcz29_2
      try clear hcz29_3
      try clear hcz29_4
      try clear hcz29_5
      try clear hcz29_6
      try clear hcz29_7
      try clear hcz29_8
      try clear hcz29_9
      try clear hcz30
      try clear hcz30_1
      try clear hcz32
      try clear hcz32_1
      try clear hcz32_10
      try clear hcz32_2
      try clear hcz32_3
      try clear hcz32_4
      try clear hcz32_5
      try clear hcz32_6
      try clear hcz32_7
      try clear hcz32_8
      try clear hcz32_9
      try clear hcz33
      try clear hcz33_1
      try clear hcz35
      try clear hcz35_1
      try clear hcz35_10
      try clear hcz35_2
      try clear hcz35_3
      try clear hcz35_4
      try clear hcz35_5
      try clear hcz35_6
      try clear hcz35_7
      try clear hcz35_8
      try clear hcz35_9
      try clear hcz6
      try clear hcz6_1
      try clear hcz8
      try clear hcz8_1
      try clear hfz13_0
      try clear hfz13_1
      try clear hfz21_0
      try clear hfz21_1
      try clear hfz21_10
      try clear hfz21_2
      try clear hfz21_3
      try clear hfz21_4
      try clear hfz21_5
      try clear hfz21_6
      try clear hfz21_7
      try clear hfz21_8
      try clear hfz21_9
      try clear hfz22_0
      try clear hfz22_1
      try clear hfz25_0
      try clear hfz25_1
      try clear hfz25_10
      try clear hfz25_2
      try clear hfz25_3
      try clear hfz25_4
      try clear hfz25_5
      try clear hfz25_6
      try clear hfz25_7
      try clear hfz25_8
      try clear hfz25_9
      try clear hfz26_0
      try clear hfz26_1
      try clear hfz29_0
      try clear hfz29_1
      try clear hfz29_10
      try clear hfz29_2
      try clear hfz29_3
      try clear hfz29_4
      try clear hfz29_5
      try clear hfz29_6
      try clear hfz29_7
      try clear hfz29_8
      try clear hfz29_9
      try clear hfz30_0
      try clear hfz30_1
      try clear hfz32_0
      try clear hfz32_1
      try clear hfz32_10
      try clear hfz32_2
      try clear hfz32_3
      try clear hfz32_4
      try clear hfz32_5
      try clear hfz32_6
      try clear hfz32_7
      try clear hfz32_8
      try clear hfz32_9
      try clear hfz33_0
      try clear hfz33_1
      try clear hfz35_0
      try clear hfz35_1
      try clear hfz35_10
      try clear hfz35_2
      try clear hfz35_3
      try clear hfz35_4
      try clear hfz35_5
      try clear hfz35_6
      try clear hfz35_7
      try clear hfz35_8
      try clear hfz35_9
      try clear hfz6_0
      try clear hfz6_1
      try clear hfz8_0
      try clear hfz8_1
      try clear hx129_0
      try clear hx129_1
      try clear hx129_10
      try clear hx129_2
      try clear hx129_3
      try clear hx129_4
      try clear hx129_5
      try clear hx129_6
      try clear hx129_7
      try clear hx129_8
      try clear hx129_9
      try clear p129
      try clear p2
      try clear q129
      obtain ⟨kq, x52_11, rfl, HA, HJ11, BK127, BK130, HB⟩ := hcut
      cases kq with
      | zero => exact absurd HA.out (by simp [spec_RootPort.j2])
      | succ kj11 =>
       have H := HA.out
       clear HA
       simp only [spec_RootPort.j2] at H
       by_cases c36 : x52_11 = true
       case pos =>
        subst c36
        have H1 : (spec_RootPort.l0 kj11 x4_1 (wrap64 (x5_1 + 1)) a0_0 l0_1) = some (r1, r2) := by rw [if_pos rfl] at H; exact H
        clear H
        have H := H1
        clear H1
        have H' := aM H
        clear H
        go_wp2
        go_roundg kj11
        case measure => have := HK1.out; have := HJ2.out; have := HJ11.out; omega
        case rel => (try rw [← Nbq17.out]); exact ⟨(x4_1), (wrap64 (x5_1 + 1)), xE, xE, H', ⟨by have := HK1.out; have := HJ2.out; have := HJ11.out; omega⟩, ⟨by (with_reducible repeat (first | refine blk_drewN ?_ _ | refine blk_drew ?_ | refine blk_alloc ?_ _)); exact BK127.out⟩, ⟨bl HB.out⟩⟩
       replace c36 := Bool.eq_false_iff.mpr c36
       subst c36
       have H1 : (if x4_1 < 0 then (spec_RootPort.l0 kj11 x5_1 (wrap64 (x5_1 + 1)) a0_0 l0_1) else (if 0 ≤ x4_1 then (if x4_1 < (l0_1.length : Int) then ((spec_Better.f ((rd_T79 l0_1 x5_1).f2.f0) ((rd_T79 l0_1 x5_1).f2.f1) ((rd_T79 l0_1 x5_1).f2.f2) ((rd_T79 l0_1 x5_1).f2.f3) ((rd_T79 l0_1 x4_1).f2.f0) ((rd_T79 l0_1 x4_1).f2.f1) ((rd_T79 l0_1 x4_1).f2.f2) ((rd_T79 l0_1 x4_1).f2.f3)).bind fun t132 => (if t132 = true then (spec_RootPort.l0 kj11 x5_1 (wrap64 (x5_1 + 1)) a0_0 l0_1) else (spec_RootPort.l0 kj11 x4_1 (wrap64 (x5_1 + 1)) a0_0 l0_1))) else (none)) else (none))) = some (r1, r2) := by rw [if_neg (show ¬ (false = true) by decide)] at H; exact H
       clear H
       have H := H1
       clear H1
       by_cases c37 : x4_1 < 0
       case pos =>
        rw [if_pos c37] at H
        have c37b0 : decide (x4_1 < 0) = true := decide_eq_true c37
        clear c37
        have H' := aM H
        clear H
        try go_wp2
        replace BK127 := aM (blk_drew BK127.out)
        replace BK130 := aM (blk_drew BK130.out)
        replace HB := aM (below_drew1 HB.out)
        refine start_ (n := 13) (S := fun w' => True) (ds := []) (dn 13 0) (by kernel_rfl) rfl rfl trivial (fun hHeld => ?_); refine with_tabW spec_RootPort.tab7 spec_RootPort.bits7 (fun HT_ HW_ => ?_)
        generalize wc.drew = w38 at BK127 BK130 HB hHeld ⊢
        refine nY (N := some 53) HT_ ?_
        refine nY (N := some 54) HT_ ?_
        refine nY (N := some 55) HT_ ?_
        refine nU (N := some 56) HT_ ?_
        refine nU (N := some 57) HT_ ?_
        refine nU (N := some 58) HT_ ?_
        refine nU (N := some 59) HT_ ?_
        refine nU (N := some 60) HT_ ?_
        refine nU (N := some 61) HT_ ?_
        refine nU (N := some 62) HT_ ?_
        refine nU (N := some 63) HT_ ?_
        refine nU (N := some 64) HT_ ?_
        refine nY (N := some 65) HT_ ?_
        refine done_ (done_of HT_.out (by kernel_rfl)) ?_
        try go_wp2
        go_roundg kj11
        case measure => have := HK1.out; have := HJ2.out; have := HJ11.out; omega
        case rel => (try rw [← Nbq17.out]); exact ⟨(x5_1), (wrap64 (x5_1 + 1)), xE, xE, H', ⟨by have := HK1.out; have := HJ2.out; have := HJ11.out; omega⟩, ⟨by (with_reducible repeat (first | refine blk_drewN ?_ _ | refine blk_drew ?_ | refine blk_alloc ?_ _)); exact BK127.out⟩, ⟨bl HB.out⟩⟩
       rw [if_neg c37] at H
       have c37b0 : decide (x4_1 < 0) = false := decide_eq_false c37
       clear c37
       by_cases c39 : 0 ≤ x4_1
       case neg =>
        rw [if_neg c39] at H
        exact absurd H (by simp)
       rw [if_pos c39] at H
       have c39b0 : decide (0 ≤ x4_1) = true := decide_eq_true c39
       clear c39
       by_cases c40 : x4_1 < (l0_1.length : Int)
       case neg =>
        rw [if_neg c40] at H
        exact absurd H (by simp)
       rw [if_pos c40] at H
       have c40b0 : decide (x4_1 < (l0_1.length : Int)) = true := decide_eq_true c40
       clear c40
       replace H := Option.bind_eq_some_iff.mp H
       obtain ⟨t132, A410, H⟩ := H
       replace H : (if t132 = true then (spec_RootPort.l0 kj11 x5_1 (wrap64 (x5_1 + 1)) a0_0 l0_1) else (spec_RootPort.l0 kj11 x4_1 (wrap64 (x5_1 + 1)) a0_0 l0_1)) = some (r1, r2) := H
       have A41 := aM A410
       clear A410
       by_cases c42 : t132 = true
       case pos =>
        subst c42
        have H1 : (spec_RootPort.l0 kj11 x5_1 (wrap64 (x5_1 + 1)) a0_0 l0_1) = some (r1, r2) := by rw [if_pos rfl] at H; exact H
        clear H
        have H := H1
        clear H1
        have H' := aM H
        clear H
        try go_wp2
        replace BK127 := aM (blk_drew BK127.out)
        replace BK130 := aM (blk_drew BK130.out)
        replace HB := aM (below_drew1 HB.out)
        have p131 : 0 ≤ (x4_1 : Int) := of_decide_eq_true (by first | (with_reducible assumption) | assumption)
        have q131 : x4_1 < (l0_1.length : Int) := of_decide_eq_true (by first | (with_reducible assumption) | assumption)
        obtain ⟨ad131, e131, hx131_0, hx131_1, hx131_2, hx131_3, hx131_4, hx131_5, hx131_6, hx131_7, hx131_8, hx131_9, hx131_10⟩ := at_T79 HR0_1.out x4_1 p131 q131
        have hw131_10 := hx131_10
        have hw131_9 := hx131_9
        have hw131_8 := hx131_8
        have hw131_7 := hx131_7
        have hw131_6 := hx131_6
        have hw131_5 := hx131_5
        have hw131_4 := hx131_4
        have hw131_3 := hx131_3
        have hw131_2 := hx131_2
        have hw131_1 := hx131_1
        have hw131_0 := hx131_0
        obtain rfl : ad129 = ad131 := (by injection e131)
        replace hx131_0 := xB HB hx131_0
        replace hx131_1 := xB HB hx131_1
        replace hx131_2 := xB HB hx131_2
        replace hx131_3 := xB HB hx131_3
        replace hx131_4 := xB HB hx131_4
        replace hx131_5 := xB HB hx131_5
        replace hx131_6 := xB HB hx131_6
        replace hx131_7 := xB HB hx131_7
        replace hx131_8 := xB HB hx131_8
        replace hx131_9 := xB HB hx131_9
        replace hx131_10 := xB HB hx131_10
        replace p131 := eq_true p131
        replace q131 := eq_true q131
        refine start_ (n := 13) (S := fun w' => cT11 w' gb130 (.bool ((rd_T79 l0_1 x5_1).f0)) (.bool ((rd_T79 l0_1 x5_1).f1)) (.int .i64 ((rd_T79 l0_1 x5_1).f2.f0)) (.int .i64 ((rd_T79 l0_1 x5_1).f2.f1)) (.int .i64 ((rd_T79 l0_1 x5_1).f2.f2)) (.int .i64 ((rd_T79 l0_1 x5_1).f2.f3)) (.int .i64 ((rd_T79 l0_1 x5_1).f3)) (.int .i64 ((rd_T79 l0_1 x5_1).f4)) (.int .i64 ((rd_T79 l0_1 x5_1).f5)) (.int .i64 ((rd_T79 l0_1 x5_1).f6)) (.bool ((rd_T79 l0_1 x5_1).f7)) (cT2 w' gb127 (.int .i64 a0_0) (.slice (some ad129) l0_1.length c0_1) (w'.cell? (ad129.add ((x4_1).toNat * 11)) = some (.bool ((rd_T79 l0_1 x4_1).f0)) ∧ w'.cell? ⟨(ad129.add ((x4_1).toNat * 11)).block, (ad129.add ((x4_1).toNat * 11)).off + 1, none⟩ = some (.bool ((rd_T79 l0_1 x4_1).f1)) ∧ w'.cell? ⟨(ad129.add ((x4_1).toNat * 11)).block, (ad129.add ((x4_1).toNat * 11)).off + 2, none⟩ = some (.int .i64 ((rd_T79 l0_1 x4_1).f2.f0)) ∧ w'.cell? ⟨(ad129.add ((x4_1).toNat * 11)).block, (ad129.add ((x4_1).toNat * 11)).off + 3, none⟩ = some (.int .i64 ((rd_T79 l0_1 x4_1).f2.f1)) ∧ w'.cell? ⟨(ad129.add ((x4_1).toNat * 11)).block, (ad129.add ((x4_1).toNat * 11)).off + 4, none⟩ = some (.int .i64 ((rd_T79 l0_1 x4_1).f2.f2)) ∧ w'.cell? ⟨(ad129.add ((x4_1).toNat * 11)).block, (ad129.add ((x4_1).toNat * 11)).off + 5, none⟩ = some (.int .i64 ((rd_T79 l0_1 x4_1).f2.f3)) ∧ w'.cell? ⟨(ad129.add ((x4_1).toNat * 11)).block, (ad129.add ((x4_1).toNat * 11)).off + 6, none⟩ = some (.int .i64 ((rd_T79 l0_1 x4_1).f3)) ∧ w'.cell? ⟨(ad129.add ((x4_1).toNat * 11)).block, (ad129.add ((x4_1).toNat * 11)).off + 7, none⟩ = some (.int .i64 ((rd_T79 l0_1 x4_1).f4)) ∧ w'.cell? ⟨(ad129.add ((x4_1).toNat * 11)).block, (ad129.add ((x4_1).toNat * 11)).off + 8, none⟩ = some (.int .i64 ((rd_T79 l0_1 x4_1).f5)) ∧ w'.cell? ⟨(ad129.add ((x4_1).toNat * 11)).block, (ad129.add ((x4_1).toNat * 11)).off + 9, none⟩ = some (.int .i64 ((rd_T79 l0_1 x4_1).f6)) ∧ w'.cell? ⟨(ad129.add ((x4_1).toNat * 11)).block, (ad129.add ((x4_1).toNat * 11)).off + 10, none⟩ = some (.bool ((rd_T79 l0_1 x4_1).f7))))) (ds := []) (dn 13 0) (by kernel_rfl) rfl rfl ⟨cI BK130.out 0, cI BK130.out 1, cI BK130.out 2, cI BK130.out 3, cI BK130.out 4, cI BK130.out 5, cI BK130.out 6, cI BK130.out 7, cI BK130.out 8, cI BK130.out 9, cI BK130.out 10, cI BK127.out 0, cI BK127.out 1, ((HB.out.cell (World.block_lt_of_cell? w _ hw131_0)).trans hw131_0), ((HB.out.cell (World.block_lt_of_cell? w _ hw131_1)).trans hw131_1), ((HB.out.cell (World.block_lt_of_cell? w _ hw131_2)).trans hw131_2), ((HB.out.cell (World.block_lt_of_cell? w _ hw131_3)).trans hw131_3), ((HB.out.cell (World.block_lt_of_cell? w _ hw131_4)).trans hw131_4), ((HB.out.cell (World.block_lt_of_cell? w _ hw131_5)).trans hw131_5), ((HB.out.cell (World.block_lt_of_cell? w _ hw131_6)).trans hw131_6), ((HB.out.cell (World.block_lt_of_cell? w _ hw131_7)).trans hw131_7), ((HB.out.cell (World.block_lt_of_cell? w _ hw131_8)).trans hw131_8), ((HB.out.cell (World.block_lt_of_cell? w _ hw131_9)).trans hw131_9), ((HB.out.cell (World.block_lt_of_cell? w _ hw131_10)).trans hw131_10)⟩ (fun hHeld => ?_); refine with_tabW spec_RootPort.tab7 spec_RootPort.bits7 (fun HT_ HW_ => ?_)
        generalize wc.drew = w43 at BK127 BK130 HB hx131_0 hx131_1 hx131_10 hx131_2 hx131_3 hx131_4 hx131_5 hx131_6 hx131_7 hx131_8 hx131_9 hHeld ⊢
        refine nY (N := some 53) HT_ ?_
        refine nY (N := some 54) HT_ ?_
        refine nY (N := some 55) HT_ ?_
        refine nY (N := some 56) HT_ ?_
        refine pY (i := 5) (N := some 58) #[Y,Y,Y,Y,U,Y,U,U,U,U,U,U,U] HT_ ?_
        refine pY (i := 7) (N := some 60) #[Y,Y,Y,Y,U,Y,U,Y,U,U,U,U,U] HT_ ?_
        refine aY (i := 4) (N := some 57) #[Y,Y,Y,Y,Y,Y,U,Y,U,U,U,U,U] HT_ HW_ hHeld ?_
        refine aY (i := 6) (N := some 59) #[Y,Y,Y,Y,Y,Y,Y,Y,U,U,U,U,U] HT_ HW_ hHeld ?_
        refine pY (i := 8) (N := some 61) #[Y,Y,Y,Y,Y,Y,Y,Y,Y,U,U,U,U] HT_ ?_
        refine pY (i := 9) (N := some 62) #[Y,Y,Y,Y,Y,Y,Y,Y,Y,Y,U,U,U] HT_ ?_
        refine aY (i := 10) (N := some 63) #[Y,Y,Y,Y,Y,Y,Y,Y,Y,Y,Y,U,U] HT_ HW_ hHeld ?_
        refine one_ (i := 11) (N := some 64) #[Y,Y,Y,Y,Y,Y,Y,Y,Y,Y,Y,Y,U] rfl rfl (one_of HT_.out (by kernel_rfl)) (by decide) (fun K hK => ?_)
        refine goes_ Try.func68 (by kernel_rfl) rfl #[.agg #[.int .i64 ((rd_T79 l0_1 x5_1).f2.f0), .int .i64 ((rd_T79 l0_1 x5_1).f2.f1), .int .i64 ((rd_T79 l0_1 x5_1).f2.f2), .int .i64 ((rd_T79 l0_1 x5_1).f2.f3)], .agg #[.int .i64 ((rd_T79 l0_1 x4_1).f2.f0), .int .i64 ((rd_T79 l0_1 x4_1).f2.f1), .int .i64 ((rd_T79 l0_1 x4_1).f2.f2), .int .i64 ((rd_T79 l0_1 x4_1).f2.f3)]] (by rfl) rfl rfl xR ?_
        with_reducible refine (spec_Better.calls ((rd_T79 l0_1 x5_1).f2.f0) ((rd_T79 l0_1 x5_1).f2.f1) ((rd_T79 l0_1 x5_1).f2.f2) ((rd_T79 l0_1 x5_1).f2.f3) ((rd_T79 l0_1 x4_1).f2.f0) ((rd_T79 l0_1 x4_1).f2.f1) ((rd_T79 l0_1 x4_1).f2.f2) ((rd_T79 l0_1 x4_1).f2.f3) true _ A41.out).mono ?_
        rintro e w44 ⟨rfl, hb⟩
        refine ⟨_, rfl, ?_⟩
        replace BK127 := aM (bB (bk BK127.out) hb)
        replace BK130 := aM (bB (bk BK130.out) hb)
        replace HB := aM (bS (bl HB.out) hb)
        (try clear hb)
        (try clear hb2)
        (try clear hk)
        (try clear hi)
        refine hK.out _ _ ⟨cI BK130.out 0, cI BK130.out 1, cI BK130.out 2, cI BK130.out 3, cI BK130.out 4, cI BK130.out 5, cI BK130.out 6, cI BK130.out 7, cI BK130.out 8, cI BK130.out 9, cI BK130.out 10, cI BK127.out 0, cI BK127.out 1, ((HB.out.cell (World.block_lt_of_cell? w _ hw131_0)).trans hw131_0), ((HB.out.cell (World.block_lt_of_cell? w _ hw131_1)).trans hw131_1), ((HB.out.cell (World.block_lt_of_cell? w _ hw131_2)).trans hw131_2), ((HB.out.cell (World.block_lt_of_cell? w _ hw131_3)).trans hw131_3), ((HB.out.cell (World.block_lt_of_cell? w _ hw131_4)).trans hw131_4), ((HB.out.cell (World.block_lt_of_cell? w _ hw131_5)).trans hw131_5), ((HB.out.cell (World.block_lt_of_cell? w _ hw131_6)).trans hw131_6), ((HB.out.cell (World.block_lt_of_cell? w _ hw131_7)).trans hw131_7), ((HB.out.cell (World.block_lt_of_cell? w _ hw131_8)).trans hw131_8), ((HB.out.cell (World.block_lt_of_cell? w _ hw131_9)).trans hw131_9), ((HB.out.cell (World.block_lt_of_cell? w _ hw131_10)).trans hw131_10)⟩ (fun hHeld => ?_)
        clear hK K
        refine norm_ (a' := ?_) ?_ ?_
        rotate_left
        ·show Act.put _ (some 64) _ = _
         simp only [Act.put, sA, sZ, sS, i64_w, i32_w]
         rfl
        refine pY (i := 12) (N := some 65) #[Y,Y,Y,Y,Y,Y,Y,Y,Y,Y,Y,Y,Y] HT_ ?_
        refine done_ (done_of HT_.out (by kernel_rfl)) ?_
        try go_wp2
        go_roundg kj11
        case measure => have := HK1.out; have := HJ2.out; have := HJ11.out; omega
        case rel => (try rw [← Nbq17.out]); exact ⟨(x5_1), (wrap64 (x5_1 + 1)), xE, xE, H', ⟨by have := HK1.out; have := HJ2.out; have := HJ11.out; omega⟩, ⟨by (with_reducible repeat (first | refine blk_drewN ?_ _ | refine blk_drew ?_ | refine blk_alloc ?_ _)); exact BK127.out⟩, ⟨bl HB.out⟩⟩
       replace c42 := Bool.eq_false_iff.mpr c42
       subst c42
       have H1 : (spec_RootPort.l0 kj11 x4_1 (wrap64 (x5_1 + 1)) a0_0 l0_1) = some (r1, r2) := by rw [if_neg (show ¬ (false = true) by decide)] at H; exact H
       clear H
       have H := H1
       clear H1
       have H' := aM H
       clear H
       try go_wp2
       replace BK127 := aM (blk_drew BK127.out)
       replace BK130 := aM (blk_drew BK130.out)
       replace HB := aM (below_drew1 HB.out)
       have p131 : 0 ≤ (x4_1 : Int) := of_decide_eq_true (by first | (with_reducible assumption) | assumption)
       have q131 : x4_1 < (l0_1.length : Int) := of_decide_eq_true (by first | (with_reducible assumption) | assumption)
       obtain ⟨ad131, e131, hx131_0, hx131_1, hx131_2, hx131_3, hx131_4, hx131_5, hx131_6, hx131_7, hx131_8, hx131_9, hx131_10⟩ := at_T79 HR0_1.out x4_1 p131 q131
       have hw131_10 := hx131_10
       have hw131_9 := hx131_9
       have hw131_8 := hx131_8
       have hw131_7 := hx131_7
       have hw131_6 := hx131_6
       have hw131_5 := hx131_5
       have hw131_4 := hx131_4
       have hw131_3 := hx131_3
       have hw131_2 := hx131_2
       have hw131_1 := hx131_1
       have hw131_0 := hx131_0
       obtain rfl : ad129 = ad131 := (by injection e131)
       replace hx131_0 := xB HB hx131_0
       replace hx131_1 := xB HB hx131_1
       replace hx131_2 := xB HB hx131_2
       replace hx131_3 := xB HB hx131_3
       replace hx131_4 := xB HB hx131_4
       replace hx131_5 := xB HB hx131_5
       replace hx131_6 := xB HB hx131_6
       replace hx131_7 := xB HB hx131_7
       replace hx131_8 := xB HB hx131_8
       replace hx131_9 := xB HB hx131_9
       replace hx131_10 := xB HB hx131_10
       replace p131 := eq_true p131
       replace q131 := eq_true q131
       refine start_ (n := 13) (S := fun w' => cT11 w' gb130 (.bool ((rd_T79 l0_1 x5_1).f0)) (.bool ((rd_T79 l0_1 x5_1).f1)) (.int .i64 ((rd_T79 l0_1 x5_1).f2.f0)) (.int .i64 ((rd_T79 l0_1 x5_1).f2.f1)) (.int .i64 ((rd_T79 l0_1 x5_1).f2.f2)) (.int .i64 ((rd_T79 l0_1 x5_1).f2.f3)) (.int .i64 ((rd_T79 l0_1 x5_1).f3)) (.int .i64 ((rd_T79 l0_1 x5_1).f4)) (.int .i64 ((rd_T79 l0_1 x5_1).f5)) (.int .i64 ((rd_T79 l0_1 x5_1).f6)) (.bool ((rd_T79 l0_1 x5_1).f7)) (cT2 w' gb127 (.int .i64 a0_0) (.slice (some ad129) l0_1.length c0_1) (w'.cell? (ad129.add ((x4_1).toNat * 11)) = some (.bool ((rd_T79 l0_1 x4_1).f0)) ∧ w'.cell? ⟨(ad129.add ((x4_1).toNat * 11)).block, (ad129.add ((x4_1).toNat * 11)).off + 1, none⟩ = some (.bool ((rd_T79 l0_1 x4_1).f1)) ∧ w'.cell? ⟨(ad129.add ((x4_1).toNat * 11)).block, (ad129.add ((x4_1).toNat * 11)).off + 2, none⟩ = some (.int .i64 ((rd_T79 l0_1 x4_1).f2.f0)) ∧ w'.cell? ⟨(ad129.add ((x4_1).toNat * 11)).block, (ad129.add ((x4_1).toNat * 11)).off + 3, none⟩ = some (.int .i64 ((rd_T79 l0_1 x4_1).f2.f1)) ∧ w'.cell? ⟨(ad129.add ((x4_1).toNat * 11)).block, (ad129.add ((x4_1).toNat * 11)).off + 4, none⟩ = some (.int .i64 ((rd_T79 l0_1 x4_1).f2.f2)) ∧ w'.cell? ⟨(ad129.add ((x4_1).toNat * 11)).block, (ad129.add ((x4_1).toNat * 11)).off + 5, none⟩ = some (.int .i64 ((rd_T79 l0_1 x4_1).f2.f3)) ∧ w'.cell? ⟨(ad129.add ((x4_1).toNat * 11)).block, (ad129.add ((x4_1).toNat * 11)).off + 6, none⟩ = some (.int .i64 ((rd_T79 l0_1 x4_1).f3)) ∧ w'.cell? ⟨(ad129.add ((x4_1).toNat * 11)).block, (ad129.add ((x4_1).toNat * 11)).off + 7, none⟩ = some (.int .i64 ((rd_T79 l0_1 x4_1).f4)) ∧ w'.cell? ⟨(ad129.add ((x4_1).toNat * 11)).block, (ad129.add ((x4_1).toNat * 11)).off + 8, none⟩ = some (.int .i64 ((rd_T79 l0_1 x4_1).f5)) ∧ w'.cell? ⟨(ad129.add ((x4_1).toNat * 11)).block, (ad129.add ((x4_1).toNat * 11)).off + 9, none⟩ = some (.int .i64 ((rd_T79 l0_1 x4_1).f6)) ∧ w'.cell? ⟨(ad129.add ((x4_1).toNat * 11)).block, (ad129.add ((x4_1).toNat * 11)).off + 10, none⟩ = some (.bool ((rd_T79 l0_1 x4_1).f7))))) (ds := []) (dn 13 0) (by kernel_rfl) rfl rfl ⟨cI BK130.out 0, cI BK130.out 1, cI BK130.out 2, cI BK130.out 3, cI BK130.out 4, cI BK130.out 5, cI BK130.out 6, cI BK130.out 7, cI BK130.out 8, cI BK130.out 9, cI BK130.out 10, cI BK127.out 0, cI BK127.out 1, ((HB.out.cell (World.block_lt_of_cell? w _ hw131_0)).trans hw131_0), ((HB.out.cell (World.block_lt_of_cell? w _ hw131_1)).trans hw131_1), ((HB.out.cell (World.block_lt_of_cell? w _ hw131_2)).trans hw131_2), ((HB.out.cell (World.block_lt_of_cell? w _ hw131_3)).trans hw131_3), ((HB.out.cell (World.block_lt_of_cell? w _ hw131_4)).trans hw131_4), ((HB.out.cell (World.block_lt_of_cell? w _ hw131_5)).trans hw131_5), ((HB.out.cell (World.block_lt_of_cell? w _ hw131_6)).trans hw131_6), ((HB.out.cell (World.block_lt_of_cell? w _ hw131_7)).trans hw131_7), ((HB.out.cell (World.block_lt_of_cell? w _ hw131_8)).trans hw131_8), ((HB.out.cell (World.block_lt_of_cell? w _ hw131_9)).trans hw131_9), ((HB.out.cell (World.block_lt_of_cell? w _ hw131_10)).trans hw131_10)⟩ (fun hHeld => ?_); refine with_tabW spec_RootPort.tab7 spec_RootPort.bits7 (fun HT_ HW_ => ?_)
       generalize wc.drew = w45 at BK127 BK130 HB hx131_0 hx131_1 hx131_10 hx131_2 hx131_3 hx131_4 hx131_5 hx131_6 hx131_7 hx131_8 hx131_9 hHeld ⊢
       refine nY (N := some 53) HT_ ?_
       refine nY (N := some 54) HT_ ?_
       refine nY (N := some 55) HT_ ?_
       refine nY (N := some 56) HT_ ?_
       refine pY (i := 5) (N := some 58) #[Y,Y,Y,Y,U,Y,U,U,U,U,U,U,U] HT_ ?_
       refine pY (i := 7) (N := some 60) #[Y,Y,Y,Y,U,Y,U,Y,U,U,U,U,U] HT_ ?_
       refine aY (i := 4) (N := some 57) #[Y,Y,Y,Y,Y,Y,U,Y,U,U,U,U,U] HT_ HW_ hHeld ?_
       refine aY (i := 6) (N := some 59) #[Y,Y,Y,Y,Y,Y,Y,Y,U,U,U,U,U] HT_ HW_ hHeld ?_
       refine pY (i := 8) (N := some 61) #[Y,Y,Y,Y,Y,Y,Y,Y,Y,U,U,U,U] HT_ ?_
       refine pY (i := 9) (N := some 62) #[Y,Y,Y,Y,Y,Y,Y,Y,Y,Y,U,U,U] HT_ ?_
       refine aY (i := 10) (N := some 63) #[Y,Y,Y,Y,Y,Y,Y,Y,Y,Y,Y,U,U] HT_ HW_ hHeld ?_
       refine one_ (i := 11) (N := some 64) #[Y,Y,Y,Y,Y,Y,Y,Y,Y,Y,Y,Y,U] rfl rfl (one_of HT_.out (by kernel_rfl)) (by decide) (fun K hK => ?_)
       refine goes_ Try.func68 (by kernel_rfl) rfl #[.agg #[.int .i64 ((rd_T79 l0_1 x5_1).f2.f0), .int .i64 ((rd_T79 l0_1 x5_1).f2.f1), .int .i64 ((rd_T79 l0_1 x5_1).f2.f2), .int .i64 ((rd_T79 l0_1 x5_1).f2.f3)], .agg #[.int .i64 ((rd_T79 l0_1 x4_1).f2.f0), .int .i64 ((rd_T79 l0_1 x4_1).f2.f1), .int .i64 ((rd_T79 l0_1 x4_1).f2.f2), .int .i64 ((rd_T79 l0_1 x4_1).f2.f3)]] (by rfl) rfl rfl xR ?_
       with_reducible refine (spec_Better.calls ((rd_T79 l0_1 x5_1).f2.f0) ((rd_T79 l0_1 x5_1).f2.f1) ((rd_T79 l0_1 x5_1).f2.f2) ((rd_T79 l0_1 x5_1).f2.f3) ((rd_T79 l0_1 x4_1).f2.f0) ((rd_T79 l0_1 x4_1).f2.f1) ((rd_T79 l0_1 x4_1).f2.f2) ((rd_T79 l0_1 x4_1).f2.f3) false _ A41.out).mono ?_
       rintro e w46 ⟨rfl, hb⟩
       refine ⟨_, rfl, ?_⟩
       replace BK127 := aM (bB (bk BK127.out) hb)
       replace BK130 := aM (bB (bk BK130.out) hb)
       replace HB := aM (bS (bl HB.out) hb)
       (try clear hb)
       (try clear hb2)
       (try clear hk)
       (try clear hi)
       refine hK.out _ _ ⟨cI BK130.out 0, cI BK130.out 1, cI BK130.out 2, cI BK130.out 3, cI BK130.out 4, cI BK130.out 5, cI BK130.out 6, cI BK130.out 7, cI BK130.out 8, cI BK130.out 9, cI BK130.out 10, cI BK127.out 0, cI BK127.out 1, ((HB.out.cell (World.block_lt_of_cell? w _ hw131_0)).trans hw131_0), ((HB.out.cell (World.block_lt_of_cell? w _ hw131_1)).trans hw131_1), ((HB.out.cell (World.block_lt_of_cell? w _ hw131_2)).trans hw131_2), ((HB.out.cell (World.block_lt_of_cell? w _ hw131_3)).trans hw131_3), ((HB.out.cell (World.block_lt_of_cell? w _ hw131_4)).trans hw131_4), ((HB.out.cell (World.block_lt_of_cell? w _ hw131_5)).trans hw131_5), ((HB.out.cell (World.block_lt_of_cell? w _ hw131_6)).trans hw131_6), ((HB.out.cell (World.block_lt_of_cell? w _ hw131_7)).trans hw131_7), ((HB.out.cell (World.block_lt_of_cell? w _ hw131_8)).trans hw131_8), ((HB.out.cell (World.block_lt_of_cell? w _ hw131_9)).trans hw131_9), ((HB.out.cell (World.block_lt_of_cell? w _ hw131_10)).trans hw131_10)⟩ (fun hHeld => ?_)
       clear hK K
       refine norm_ (a' := ?_) ?_ ?_
       rotate_left
       ·show Act.put _ (some 64) _ = _
        simp only [Act.put, sA, sZ, sS, i64_w, i32_w]
        rfl
       refine pY (i := 12) (N := some 65) #[Y,Y,Y,Y,Y,Y,Y,Y,Y,Y,Y,Y,Y] HT_ ?_
       refine done_ (done_of HT_.out (by kernel_rfl)) ?_
       try go_wp2
       go_roundg kj11
       case measure => have := HK1.out; have := HJ2.out; have := HJ11.out; omega
       case rel => (try rw [← Nbq17.out]); exact ⟨(x4_1), (wrap64 (x5_1 + 1)), xE, xE, H', ⟨by have := HK1.out; have := HJ2.out; have := HJ11.out; omega⟩, ⟨by (with_reducible repeat (first | refine blk_drewN ?_ _ | refine blk_drew ?_ | refine blk_alloc ?_ _)); exact BK127.out⟩, ⟨bl HB.out⟩⟩

end Go.Proofs.Ythmijfekdeagpaa.PFnExactDecide
