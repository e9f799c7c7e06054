/- Of the proof of laws.FnExactDecide: a part. No condition beyond what its theorems say. -/
import Derived.Test.YthmijfekdeagpaaVFnExactDecideWTight
import Derived.Test.YthmijfekdeagpaaVFnExactDecidePx0
import Derived.Test.YthmijfekdeagpaaVFnExactDecidePx11
import Derived.Test.YthmijfekdeagpaaVFnExactDecidePx12
import Derived.Test.YthmijfekdeagpaaVFnExactDecidePx13
import Derived.Test.YthmijfekdeagpaaVFnExactDecidePx14
namespace Go.Proofs.Ythmijfekdeagpaa.PFnExactDecide
open Go.RowKit Go.Proofs.YthmijfekdeagpaaW.PrintWords Go.Proofs.YthmijfekdeagpaaW.PrintLast Go.Proofs.YthmijfekdeagpaaW.PrintMore
attribute [local go_sem] max2_int min2_int max_two min_two max_three min_three max_four min_four   -- for this text's walks alone
set_option linter.unusedVariables false
set_option linter.unusedSimpArgs false

mutual
def impl_Bridge_decide.l0 : Nat → Int → Int → Int → Int → List (S79) → Option ((List (S79)))
 | 0, _, _, _, _, _ => none
 | k + 1, x2, x11, x12, x348000, x348001 => if x12 < x11 then (if 0 ≤ x12 then (if x12 < (x348001.length : Int) then (if ((rd_T79 x348001 x12).f0 = true) then (if x12 = x2 then ((impl_Turn.f k ((rd_T79 x348001 x12).f0) ((rd_T79 x348001 x12).f1) ((rd_T79 x348001 x12).f2.f0) ((rd_T79 x348001 x12).f2.f1) ((rd_T79 x348001 x12).f2.f2) ((rd_T79 x348001 x12).f2.f3) ((rd_T79 x348001 x12).f3) ((rd_T79 x348001 x12).f4) ((rd_T79 x348001 x12).f5) ((rd_T79 x348001 x12).f6) ((rd_T79 x348001 x12).f7) 1).bind fun bt351 => (impl_Bridge_decide.l0 k x2 x11 (wrap64 (x12 + 1)) x348000 (x348001.set (x12 : Int).toNat (⟨bt351.1, bt351.2.1, (⟨bt351.2.2.1, bt351.2.2.2.1, bt351.2.2.2.2.1, bt351.2.2.2.2.2.1⟩ : S73), bt351.2.2.2.2.2.2.1, bt351.2.2.2.2.2.2.2.1, bt351.2.2.2.2.2.2.2.2.1, bt351.2.2.2.2.2.2.2.2.2.1, bt351.2.2.2.2.2.2.2.2.2.2⟩ : S79)))) else (if (rd_T79 x348001 x12).f1 = true then ((impl_Bridge_own.f k x348000 x348001 x12).bind fun bt363 => ((impl_Better.f k ((rd_T79 x348001 x12).f2.f0) ((rd_T79 x348001 x12).f2.f1) ((rd_T79 x348001 x12).f2.f2) ((rd_T79 x348001 x12).f2.f3) bt363.1 bt363.2.1 bt363.2.2.1 bt363.2.2.2).bind fun t367 => (impl_Bridge_decide.j1 k x2 x12 x11 x12 t367 x348000 x348001 ((rd_T79 x348001 x12).f0) ((rd_T79 x348001 x12).f1) ((rd_T79 x348001 x12).f2.f0) ((rd_T79 x348001 x12).f2.f1) ((rd_T79 x348001 x12).f2.f2) ((rd_T79 x348001 x12).f2.f3) ((rd_T79 x348001 x12).f3) ((rd_T79 x348001 x12).f4) ((rd_T79 x348001 x12).f5) ((rd_T79 x348001 x12).f6) ((rd_T79 x348001 x12).f7)))) else (impl_Bridge_decide.j1 k x2 x12 x11 x12 false x348000 x348001 ((rd_T79 x348001 x12).f0) ((rd_T79 x348001 x12).f1) ((rd_T79 x348001 x12).f2.f0) ((rd_T79 x348001 x12).f2.f1) ((rd_T79 x348001 x12).f2.f2) ((rd_T79 x348001 x12).f2.f3) ((rd_T79 x348001 x12).f3) ((rd_T79 x348001 x12).f4) ((rd_T79 x348001 x12).f5) ((rd_T79 x348001 x12).f6) ((rd_T79 x348001 x12).f7)))) else (impl_Bridge_decide.l0 k x2 x11 (wrap64 (x12 + 1)) x348000 x348001)) else (none)) else (none)) else (some x348001)
def impl_Bridge_decide.j1 : Nat → Int → Int → Int → Int → Bool → Int → List (S79) → Bool → Bool → Int → Int → Int → Int → Int → Int → Int → Int → Bool → Option ((List (S79)))
 | 0, _, _, _, _, _, _, _, _, _, _, _, _, _, _, _, _, _, _ => none
 | k + 1, x2, x3, x11, x12, x41, x348000, x348001, x351000, x351001, x351002, x351003, x351004, x351005, x351006, x351007, x351008, x351009, x351010 => if x41 = true then ((impl_Turn.f k x351000 x351001 x351002 x351003 x351004 x351005 x351006 x351007 x351008 x351009 x351010 3).bind fun bt368 => (if 0 ≤ x3 then (if x3 < (x348001.length : Int) then (impl_Bridge_decide.l0 k x2 x11 (wrap64 (x12 + 1)) x348000 (x348001.set (x3 : Int).toNat (⟨bt368.1, bt368.2.1, (⟨bt368.2.2.1, bt368.2.2.2.1, bt368.2.2.2.2.1, bt368.2.2.2.2.2.1⟩ : S73), bt368.2.2.2.2.2.2.1, bt368.2.2.2.2.2.2.2.1, bt368.2.2.2.2.2.2.2.2.1, bt368.2.2.2.2.2.2.2.2.2.1, bt368.2.2.2.2.2.2.2.2.2.2⟩ : S79))) else (none)) else (none))) else ((impl_Turn.f k x351000 x351001 x351002 x351003 x351004 x351005 x351006 x351007 x351008 x351009 x351010 2).bind fun bt380 => (if 0 ≤ x3 then (if x3 < (x348001.length : Int) then (impl_Bridge_decide.l0 k x2 x11 (wrap64 (x12 + 1)) x348000 (x348001.set (x3 : Int).toNat (⟨bt380.1, bt380.2.1, (⟨bt380.2.2.1, bt380.2.2.2.1, bt380.2.2.2.2.1, bt380.2.2.2.2.2.1⟩ : S73), bt380.2.2.2.2.2.2.1, bt380.2.2.2.2.2.2.2.1, bt380.2.2.2.2.2.2.2.2.1, bt380.2.2.2.2.2.2.2.2.2.1, bt380.2.2.2.2.2.2.2.2.2.2⟩ : S79))) else (none)) else (none)))
end
def impl_Bridge_decide.f (k : Nat) (a0_0 : Int) (l0_1 : List (S79)) : Option ((List (S79))) := (impl_Bridge_rootPort.f k a0_0 l0_1).bind fun t348 => (impl_Bridge_decide.l0 k t348 (l0_1.length : Int) 0 a0_0 l0_1)
theorem impl_Bridge_decide.mono_l : ∀ k, (∀ y0 y1 y2 y3 y4, LeO (impl_Bridge_decide.l0 k y0 y1 y2 y3 y4) (impl_Bridge_decide.l0 (k + 1) y0 y1 y2 y3 y4)) ∧ (∀ y0 y1 y2 y3 y4 y5 y6 y7 y8 y9 y10 y11 y12 y13 y14 y15 y16 y17, LeO (impl_Bridge_decide.j1 k y0 y1 y2 y3 y4 y5 y6 y7 y8 y9 y10 y11 y12 y13 y14 y15 y16 y17) (impl_Bridge_decide.j1 (k + 1) y0 y1 y2 y3 y4 y5 y6 y7 y8 y9 y10 y11 y12 y13 y14 y15 y16 y17))
 | 0 => ⟨fun _ _ _ _ _ r h => by simp [impl_Bridge_decide.l0] at h, fun _ _ _ _ _ _ _ _ _ _ _ _ _ _ _ _ _ _ r h => by simp [impl_Bridge_decide.j1] at h⟩
 | k + 1 => by
  obtain ⟨ih0, ih1⟩ := impl_Bridge_decide.mono_l k
  refine ⟨?_, ?_⟩
  ·intro y0 y1 y2 y3 y4
   unfold impl_Bridge_decide.l0
   repeat' first
   | (with_reducible exact ih0 _ _ _ _ _)
   | (with_reducible exact ih1 _ _ _ _ _ _ _ _ _ _ _ _ _ _ _ _ _ _)
   | (with_reducible exact impl_Better.mono _ _ _ _ _ _ _ _ _)
   | (with_reducible exact impl_Bridge_own.mono _ _ _ _)
   | (with_reducible exact impl_Bridge_rootPort.mono _ _ _)
   | (with_reducible exact impl_Turn.mono _ _ _ _ _ _ _ _ _ _ _ _ _)
   | (with_reducible exact LeO.refl _)
   | (with_reducible exact LeO.none _)
   | (with_reducible refine LeO.ite ?_ ?_)
   | (with_reducible refine LeO.bind ?_ (fun _ => ?_))
   | exact ih0 _ _ _ _ _
   | exact ih1 _ _ _ _ _ _ _ _ _ _ _ _ _ _ _ _ _ _
   | exact impl_Better.mono _ _ _ _ _ _ _ _ _
   | exact impl_Bridge_own.mono _ _ _ _
   | exact impl_Bridge_rootPort.mono _ _ _
   | exact impl_Turn.mono _ _ _ _ _ _ _ _ _ _ _ _ _
   | exact LeO.none _
   | refine LeO.ite ?_ ?_
   | refine LeO.bind ?_ (fun _ => ?_)
  ·intro y0 y1 y2 y3 y4 y5 y6 y7 y8 y9 y10 y11 y12 y13 y14 y15 y16 y17
   unfold impl_Bridge_decide.j1
   repeat' first
   | (with_reducible exact ih0 _ _ _ _ _)
   | (with_reducible exact ih1 _ _ _ _ _ _ _ _ _ _ _ _ _ _ _ _ _ _)
   | (with_reducible exact impl_Better.mono _ _ _ _ _ _ _ _ _)
   | (with_reducible exact impl_Bridge_own.mono _ _ _ _)
   | (with_reducible exact impl_Bridge_rootPort.mono _ _ _)
   | (with_reducible exact impl_Turn.mono _ _ _ _ _ _ _ _ _ _ _ _ _)
   | (with_reducible exact LeO.refl _)
   | (with_reducible exact LeO.none _)
   | (with_reducible refine LeO.ite ?_ ?_)
   | (with_reducible refine LeO.bind ?_ (fun _ => ?_))
   | exact ih0 _ _ _ _ _
   | exact ih1 _ _ _ _ _ _ _ _ _ _ _ _ _ _ _ _ _ _
   | exact impl_Better.mono _ _ _ _ _ _ _ _ _
   | exact impl_Bridge_own.mono _ _ _ _
   | exact impl_Bridge_rootPort.mono _ _ _
   | exact impl_Turn.mono _ _ _ _ _ _ _ _ _ _ _ _ _
   | exact LeO.none _
   | refine LeO.ite ?_ ?_
   | refine LeO.bind ?_ (fun _ => ?_)
theorem impl_Bridge_decide.mono : ∀ a0 a1 k, LeO (impl_Bridge_decide.f k a0 a1) (impl_Bridge_decide.f (k + 1) a0 a1) := by
 intro a0 a1 k
 obtain ⟨ih0, ih1⟩ := impl_Bridge_decide.mono_l k
 unfold impl_Bridge_decide.f
 repeat' first
   | (with_reducible exact ih0 _ _ _ _ _)
   | (with_reducible exact ih1 _ _ _ _ _ _ _ _ _ _ _ _ _ _ _ _ _ _)
   | (with_reducible exact impl_Better.mono _ _ _ _ _ _ _ _ _)
   | (with_reducible exact impl_Bridge_own.mono _ _ _ _)
   | (with_reducible exact impl_Bridge_rootPort.mono _ _ _)
   | (with_reducible exact impl_Turn.mono _ _ _ _ _ _ _ _ _ _ _ _ _)
   | (with_reducible exact LeO.refl _)
   | (with_reducible exact LeO.none _)
   | (with_reducible refine LeO.ite ?_ ?_)
   | (with_reducible refine LeO.bind ?_ (fun _ => ?_))
   | exact ih0 _ _ _ _ _
   | exact ih1 _ _ _ _ _ _ _ _ _ _ _ _ _ _ _ _ _ _
   | exact impl_Better.mono _ _ _ _ _ _ _ _ _
   | exact impl_Bridge_own.mono _ _ _ _
   | exact impl_Bridge_rootPort.mono _ _ _
   | exact impl_Turn.mono _ _ _ _ _ _ _ _ _ _ _ _ _
   | exact LeO.none _
   | refine LeO.ite ?_ ?_
   | refine LeO.bind ?_ (fun _ => ?_)
def impl_Bridge_decide.T4 : Bool × List (List Nat × List Nat) := (true, [([], []), ([0], [0]), ([1], [1]), ([2], [2]), ([], []), ([], []), ([5], [5]), ([3, 4, 0, 1, 2, 3, 4, 5, 6], [3, 4]), ([7, 6, 6, 0, 1, 2, 3, 4, 5, 6], [6, 7])])
def impl_Bridge_decide.B4 : List Nat := [0, 1, 3, 7, 0, 0, 32, 127, 255]
theorem impl_Bridge_decide.tab4 : rtab .any (opsOf Try.f72 4) = impl_Bridge_decide.T4 := by kernel_rfl
theorem impl_Bridge_decide.bits4 : waitsOk impl_Bridge_decide.T4.2 impl_Bridge_decide.B4 = true := by kernel_rfl
def impl_Bridge_decide.T7 : Bool × List (List Nat × List Nat) := (true, [([], []), ([0], [0]), ([1], [1]), ([2], [2]), ([], []), ([], []), ([5], [5]), ([3, 4, 0, 1, 2, 3, 4, 5, 6], [3, 4]), ([7, 6, 6, 0, 1, 2, 3, 4, 5, 6], [6, 7])])
def impl_Bridge_decide.B7 : List Nat := [0, 1, 3, 7, 0, 0, 32, 127, 255]
theorem impl_Bridge_decide.tab7 : rtab .any (opsOf Try.f72 7) = impl_Bridge_decide.T7 := by kernel_rfl
theorem impl_Bridge_decide.bits7 : waitsOk impl_Bridge_decide.T7.2 impl_Bridge_decide.B7 = true := by kernel_rfl
def impl_Bridge_decide.T8 : Bool × List (List Nat × List Nat) := (true, [([], []), ([0], [0]), ([1], [1]), ([2], [2]), ([3, 2], [2, 3]), ([2], [2]), ([2], [2]), ([5, 6, 2, 2], [2, 5, 6]), ([4, 7, 7, 2], [2, 4, 7]), ([2, 8], [2, 8]), ([9, 8], [9])])
def impl_Bridge_decide.B8 : List Nat := [0, 1, 3, 7, 15, 7, 7, 103, 255, 511, 1023]
theorem impl_Bridge_decide.tab8 : rtab .any (opsOf Try.f72 8) = impl_Bridge_decide.T8 := by kernel_rfl
theorem impl_Bridge_decide.bits8 : waitsOk impl_Bridge_decide.T8.2 impl_Bridge_decide.B8 = true := by kernel_rfl
def impl_Bridge_decide.T9 : Bool × List (List Nat × List Nat) := (true, [([], []), ([0], [0]), ([1], [1]), ([2], [2]), ([], []), ([], []), ([5], [5]), ([3, 4, 0, 1, 2, 3, 4, 5, 6], [3, 4]), ([7, 6, 6, 0, 1, 2, 3, 4, 5, 6], [6, 7])])
def impl_Bridge_decide.B9 : List Nat := [0, 1, 3, 7, 0, 0, 32, 127, 255]
theorem impl_Bridge_decide.tab9 : rtab .any (opsOf Try.f72 9) = impl_Bridge_decide.T9 := by kernel_rfl
theorem impl_Bridge_decide.bits9 : waitsOk impl_Bridge_decide.T9.2 impl_Bridge_decide.B9 = true := by kernel_rfl
set_option maxHeartbeats 60000000 in
set_option maxRecDepth 100000 in
theorem impl_Bridge_decide.calls (k : Nat) (a0_0 : Int) (P0_1_ : Nat → Prop) (u9000_ : Value) (l0_1 : List (S79)) (r : List (S79)) (w0 w : World) (gb : Nat) (hBK : w.heap[gb]? = some (.cells #[.int .i64 a0_0, u9000_] 28 (0, 0))) (hgb : ¬ P0_1_ gb) (hB : Below w0.heap.size w0 w) (ho0_1 : Kd.R k79 79 w w0.heap.size P0_1_ u9000_ l0_1) (h : impl_Bridge_decide.f k a0_0 l0_1 = some r) :
  Calls Try.prog 72 #[.pointer (some ⟨gb, 0, none⟩)] w fun e w' => e = .returned (.tuple #[]) ∧ Kd.R k79 79 w' w0.heap.size (fun k_ => (P0_1_ k_ ∨ w.heap.size ≤ k_)) u9000_ r ∧ Below w0.heap.size w0 w' ∧ Kept w w' (fun k_ => P0_1_ k_) := by
 have hu28 := Try.underlying28
 have hu79 := Try.underlying79
 have hu73 := Try.underlying73
 have HO0_1 := aM (show Kd.R k79 79 w w0.heap.size (fun k_ => (P0_1_ k_ ∨ w.heap.size ≤ k_)) u9000_ l0_1 from Kd.R_mono ho0_1 (fun k_ hk => (.inl hk)))
 have HK := aM (Kept.refl w (fun k_ => P0_1_ k_))
 have HW0 := aM hB.size
 have HB := aM hB
 have HGB := aM hgb
 clear hgb
 clear hB
 have H : ((impl_Bridge_rootPort.f k a0_0 l0_1).bind fun t348 => (impl_Bridge_decide.l0 k t348 (l0_1.length : Int) 0 a0_0 l0_1)) = some r := h
 clear h
 replace H := Option.bind_eq_some_iff.mp H
 obtain ⟨t348, A20, H⟩ := H
 replace H : (impl_Bridge_decide.l0 k t348 (l0_1.length : Int) 0 a0_0 l0_1) = some r := H
 have A2 := aM A20
 clear A20
 have H' := aM H
 clear H
 obtain ⟨Ao3, co3, eo3⟩ := Kd.R_slice HO0_1.out
 subst eo3
 go_enter Try.func72, Try.ntmps72
 have BK347 := aM hBK
 clear hBK
 have hcz5 := cA2 BK347.out
 go_wp2_with (first | ((with_reducible refine gC (f := 118) rfl ?_); refine gL (some 6) Try.func118 #[.pointer (some ⟨gb, 0, none⟩)] ?_; (with_reducible refine (impl_Bridge_rootPort.calls (gb := gb) (hBK := (bk BK347.out)) k a0_0 _ _ l0_1 t348 _ ?side1 ?side2 A2.out).mono ?_); (case side1 => repeat (first | exact (Kd.R_reads' HO0_1.out).2.2 | (with_reducible refine Kd.C_alloc ?_ _) | (with_reducible refine Kd.C_drewN ?_ _) | (with_reducible refine Kd.C_drew ?_))); (case side2 => exact (Kd.R_reads' HO0_1.out).2.1); rintro e w6 ⟨rfl, hb⟩; refine ⟨_, rfl, ?_⟩; replace HO0_1 := aM (kB (kr HO0_1.out) hb); replace BK347 := aM (bB (bk BK347.out) hb); replace HK := aM (Kept.below (S := (fun k_ => P0_1_ k_)) (kk HK.out) hb); replace HB := aM (bS (bl HB.out) hb); (try clear hb); have hcz7 := cA2 BK347.out))
 go_loopg [12] k (fun kq v12 w' => ∃ (x12_1 : Int) (x348000_1 : Int) (x348001_1 : List (S79)), v12 = .int .i64 x12_1 ∧ Aside0 (impl_Bridge_decide.l0 kq t348 (l0_1.length : Int) x12_1 x348000_1 x348001_1 = some r) ∧ Aside0 (kq ≤ k) ∧ Aside0 (Kd.R k79 79 w' w0.heap.size (fun k_ => (P0_1_ k_ ∨ w.heap.size ≤ k_)) (.slice Ao3 l0_1.length co3) x348001_1) ∧ Aside0 (w'.heap[gb]? = some (.cells #[.int .i64 x348000_1, (.slice Ao3 l0_1.length co3)] 28 (0, 0))) ∧ Aside0 (Kept w w' (fun k_ => P0_1_ k_)) ∧ Aside0 (Below w0.heap.size w0 w'))
 case atStart => exact ⟨(0), (a0_0), (l0_1), xE, H', ⟨Nat.le_refl _⟩, ⟨kr HO0_1.out⟩, ⟨by (with_reducible repeat (first | refine blk_drewN ?_ _ | refine blk_drew ?_ | refine blk_alloc ?_ _)); exact BK347.out⟩, ⟨kk HK.out⟩, ⟨bl HB.out⟩⟩
 case round =>
  clear H'
  try clear c1
  try clear p2
  try clear c7
  try clear hcz5
  try clear hcz5_1
  try clear hcz7
  try clear hfz5_0
  try clear hfz5_1
  obtain ⟨x12_1, x348000_1, x348001_1, rfl, HA, HK1, HO_348001, BK347, HK, HB⟩ := hrel
  have hl348001_1 := (Kd.R_reads' HO_348001.out).1
  rw [hl348001_1] at HO_348001
  (try simp only [hl348001_1])
  (try simp only [hl348001_1] at BK347)
  cases gk with
  | zero => exact absurd HA.out (by simp [impl_Bridge_decide.l0])
  | succ k1 =>
   have H := HA.out
   clear HA
   simp only [impl_Bridge_decide.l0] at H
   by_cases c8 : x12_1 < (l0_1.length : Int)
   case neg =>
    rw [if_neg c8] at H
    have c8b0 : decide (x12_1 < (l0_1.length : Int)) = false := decide_eq_false c8
    (try rw [hl348001_1] at c8b0)
    clear c8
    obtain rfl := Option.some.inj H
    go_wp2
    first | go_end0 | ((try simp only [Exit.inBlock, Exit.then]); refine bodyPost_ret (results_none rfl _ _ _) rfl ?_)
    exact ⟨xW, (by first | exact (kr HO_348001.out) | (simp only [hl348001_1]; exact (kr HO_348001.out))), bl HB.out, kk HK.out⟩
   rw [if_pos c8] at H
   have c8b0 : decide (x12_1 < (l0_1.length : Int)) = true := decide_eq_true c8
   clear c8
   by_cases c9 : 0 ≤ x12_1
   case neg =>
    rw [if_neg c9] at H
    exact absurd H (by simp)
   rw [if_pos c9] at H
   have c9b0 : decide (0 ≤ x12_1) = true := decide_eq_true c9
   clear c9
   by_cases c10 : x12_1 < (x348001_1.length : Int)
   case neg =>
    rw [if_neg c10] at H
    exact absurd H (by simp)
   rw [if_pos c10] at H
   have c10b0 : decide (x12_1 < (x348001_1.length : Int)) = true := decide_eq_true c10
   clear c10
   obtain ⟨bq11, hbq11⟩ : ∃ b_ : Bool, b_ = ((rd_T79 x348001_1 x12_1).f0) := ⟨_, rfl⟩
   replace H : (if (bq11 = true) then (if x12_1 = t348 then ((impl_Turn.f k1 (bq11) ((rd_T79 x348001_1 x12_1).f1) ((rd_T79 x348001_1 x12_1).f2.f0) ((rd_T79 x348001_1 x12_1).f2.f1) ((rd_T79 x348001_1 x12_1).f2.f2) ((rd_T79 x348001_1 x12_1).f2.f3) ((rd_T79 x348001_1 x12_1).f3) ((rd_T79 x348001_1 x12_1).f4) ((rd_T79 x348001_1 x12_1).f5) ((rd_T79 x348001_1 x12_1).f6) ((rd_T79 x348001_1 x12_1).f7) 1).bind fun bt351 => (impl_Bridge_decide.l0 k1 t348 (l0_1.length : Int) (wrap64 (x12_1 + 1)) x348000_1 (x348001_1.set (x12_1 : Int).toNat (⟨bt351.1, bt351.2.1, (⟨bt351.2.2.1, bt351.2.2.2.1, bt351.2.2.2.2.1, bt351.2.2.2.2.2.1⟩ : S73), bt351.2.2.2.2.2.2.1, bt351.2.2.2.2.2.2.2.1, bt351.2.2.2.2.2.2.2.2.1, bt351.2.2.2.2.2.2.2.2.2.1, bt351.2.2.2.2.2.2.2.2.2.2⟩ : S79)))) else (if (rd_T79 x348001_1 x12_1).f1 = true then ((impl_Bridge_own.f k1 x348000_1 x348001_1 x12_1).bind fun bt363 => ((impl_Better.f k1 ((rd_T79 x348001_1 x12_1).f2.f0) ((rd_T79 x348001_1 x12_1).f2.f1) ((rd_T79 x348001_1 x12_1).f2.f2) ((rd_T79 x348001_1 x12_1).f2.f3) bt363.1 bt363.2.1 bt363.2.2.1 bt363.2.2.2).bind fun t367 => (impl_Bridge_decide.j1 k1 t348 x12_1 (l0_1.length : Int) x12_1 t367 x348000_1 x348001_1 bq11 ((rd_T79 x348001_1 x12_1).f1) ((rd_T79 x348001_1 x12_1).f2.f0) ((rd_T79 x348001_1 x12_1).f2.f1) ((rd_T79 x348001_1 x12_1).f2.f2) ((rd_T79 x348001_1 x12_1).f2.f3) ((rd_T79 x348001_1 x12_1).f3) ((rd_T79 x348001_1 x12_1).f4) ((rd_T79 x348001_1 x12_1).f5) ((rd_T79 x348001_1 x12_1).f6) ((rd_T79 x348001_1 x12_1).f7)))) else (impl_Bridge_decide.j1 k1 t348 x12_1 (l0_1.length : Int) x12_1 false x348000_1 x348001_1 bq11 ((rd_T79 x348001_1 x12_1).f1) ((rd_T79 x348001_1 x12_1).f2.f0) ((rd_T79 x348001_1 x12_1).f2.f1) ((rd_T79 x348001_1 x12_1).f2.f2) ((rd_T79 x348001_1 x12_1).f2.f3) ((rd_T79 x348001_1 x12_1).f3) ((rd_T79 x348001_1 x12_1).f4) ((rd_T79 x348001_1 x12_1).f5) ((rd_T79 x348001_1 x12_1).f6) ((rd_T79 x348001_1 x12_1).f7)))) else (impl_Bridge_decide.l0 k1 t348 (l0_1.length : Int) (wrap64 (x12_1 + 1)) x348000_1 x348001_1)) = some r := by rw [← hbq11] at H; exact H
   have Nbq11 := aM hbq11
   clear hbq11
   by_cases c12 : (bq11 = true)
   case neg =>
    replace c12 := Bool.eq_false_iff.mpr c12
    subst c12
    have H1 : (impl_Bridge_decide.l0 k1 t348 (l0_1.length : Int) (wrap64 (x12_1 + 1)) x348000_1 x348001_1) = some r := by rw [if_neg (show ¬ (false = true) by decide)] at H; exact H
    clear H
    have H := H1
    clear H1
    have H' := aM H
    clear H
    have hcz54 := cA2 BK347.out
    have p349 : 0 ≤ (x12_1 : Int) := of_decide_eq_true (by first | (with_reducible assumption) | assumption)
    have q349 : x12_1 < (x348001_1.length : Int) := of_decide_eq_true (by first | (with_reducible assumption) | assumption)
    obtain ⟨ad349, e349, hx349_0, hx349_1, hx349_2, hx349_3, hx349_4, hx349_5, hx349_6, hx349_7, hx349_8, hx349_9, hx349_10⟩ := at_T79 (Kd.R_reads' HO_348001.out).2.2 x12_1 p349 q349
    (try rw [← Nbq11.out] at hx349_0)
    (try rw [← Nbq11.out] at hx349_1)
    (try rw [← Nbq11.out] at hx349_10)
    cases e349
    replace p349 := eq_true p349
    replace q349 := eq_true q349
    go_wp2_with (first | ((with_reducible refine gD (N := 4) rfl ?_); refine box_event ?hg (N := 4) ?hd (cs := #[.bool false, .bool false, .int .i64 0, .int .i64 0, .int .i64 0, .int .i64 0, .int .i64 0, .int .i64 0, .int .i64 0, .int .i64 0, .bool false]) (t := 79) ?hr ?_; (case hd => rfl); (case hg => rfl); (case hr => first | (go_simp; done) | (go_simp; rfl) | (obtain ⟨A_, c_, e_⟩ := Kd.R_slice HO_348001.out; subst e_; (first | (go_simp; done) | (go_simp; rfl))) | (obtain ⟨A_, c_, e_⟩ := Kd.S_slice HO_348001.out; subst e_; (first | (go_simp; done) | (go_simp; rfl)))); intro gb350 hg w55 hbox hb; have BK350 := aM (hbox); have GW350 := gE hg (kk HK.out).1; have GE350 := gE hg (below_size (bl HB.out)); have NB347_350 := nL hg (blk_lt (bk BK347.out)); have NB350_347 := nG hg (blk_lt (bk BK347.out)); replace HO_348001 := aM (kB (Kd.R_elderB (kr HO_348001.out) gb350 (Nat.le_of_eq hg.symm)) hb); replace BK347 := aM (bB (bk BK347.out) hb); replace HK := aM (Kept.below (S := (fun k_ => P0_1_ k_)) (kk HK.out) hb); replace HB := aM (bS (bl HB.out) hb); clear hb hbox hg; have hnb56 := NB350_347.out; have hnc56 := NB347_350.out; have hcz57 := cA11 BK350.out))
    (try simp only [← hl348001_1])
    go_roundg k1
    case measure => have := HK1.out; omega
    case rel => (try rw [← Nbq11.out]); (try rw [← Nbq29.out]); exact ⟨(wrap64 (x12_1 + 1)), (x348000_1), (x348001_1), xE, H', ⟨by have := HK1.out; omega⟩, ⟨by (try simp only [hl348001_1]); (with_reducible repeat (first | apply Kd.R_alloc | apply Kd.R_drewN | apply Kd.R_drew)); exact Kd.R_mono (kF (p := ⟨gb350, 10, none⟩) (kF (p := ⟨gb350, 9, none⟩) (kF (p := ⟨gb350, 8, none⟩) (kF (p := ⟨gb350, 7, none⟩) (kF (p := ⟨gb350, 6, none⟩) (kF (p := ⟨gb350, 5, none⟩) (kF (p := ⟨gb350, 4, none⟩) (kF (p := ⟨gb350, 3, none⟩) (kF (p := ⟨gb350, 2, none⟩) (kF (p := ⟨gb350, 1, none⟩) (kF (p := ⟨gb350, 0, none⟩) (Kd.R_mono HO_348001.out (fun k_ hk => (⟨hk, hk.2⟩ : _ ∧ k_ ≠ gb350))) (fun _ hk => hk.2) (.bool false)) (fun _ hk => hk.2) (.bool ((rd_T79 x348001_1 x12_1).f1))) (fun _ hk => hk.2) (.int .i64 ((rd_T79 x348001_1 x12_1).f2.f0))) (fun _ hk => hk.2) (.int .i64 ((rd_T79 x348001_1 x12_1).f2.f1))) (fun _ hk => hk.2) (.int .i64 ((rd_T79 x348001_1 x12_1).f2.f2))) (fun _ hk => hk.2) (.int .i64 ((rd_T79 x348001_1 x12_1).f2.f3))) (fun _ hk => hk.2) (.int .i64 ((rd_T79 x348001_1 x12_1).f3))) (fun _ hk => hk.2) (.int .i64 ((rd_T79 x348001_1 x12_1).f4))) (fun _ hk => hk.2) (.int .i64 ((rd_T79 x348001_1 x12_1).f5))) (fun _ hk => hk.2) (.int .i64 ((rd_T79 x348001_1 x12_1).f6))) (fun _ hk => hk.2) (.bool ((rd_T79 x348001_1 x12_1).f7))) (fun _ hk => hk.1.1)⟩, ⟨by (try simp only [hl348001_1]); (with_reducible repeat (first | refine blk_drewN ?_ _ | refine blk_drew ?_ | refine blk_alloc ?_ _)); refine blk_far ?_ NB347_350.out _; (with_reducible repeat (first | refine blk_drewN ?_ _ | refine blk_drew ?_ | refine blk_alloc ?_ _)); refine blk_far ?_ NB347_350.out _; (with_reducible repeat (first | refine blk_drewN ?_ _ | refine blk_drew ?_ | refine blk_alloc ?_ _)); refine blk_far ?_ NB347_350.out _; (with_reducible repeat (first | refine blk_drewN ?_ _ | refine blk_drew ?_ | refine blk_alloc ?_ _)); refine blk_far ?_ NB347_350.out _; (with_reducible repeat (first | refine blk_drewN ?_ _ | refine blk_drew ?_ | refine blk_alloc ?_ _)); refine blk_far ?_ NB347_350.out _; (with_reducible repeat (first | refine blk_drewN ?_ _ | refine blk_drew ?_ | refine blk_alloc ?_ _)); refine blk_far ?_ NB347_350.out _; (with_reducible repeat (first | refine blk_drewN ?_ _ | refine blk_drew ?_ | refine blk_alloc ?_ _)); refine blk_far ?_ NB347_350.out _; (with_reducible repeat (first | refine blk_drewN ?_ _ | refine blk_drew ?_ | refine blk_alloc ?_ _)); refine blk_far ?_ NB347_350.out _; (with_reducible repeat (first | refine blk_drewN ?_ _ | refine blk_drew ?_ | refine blk_alloc ?_ _)); refine blk_far ?_ NB347_350.out _; (with_reducible repeat (first | refine blk_drewN ?_ _ | refine blk_drew ?_ | refine blk_alloc ?_ _)); refine blk_far ?_ NB347_350.out _; (with_reducible repeat (first | refine blk_drewN ?_ _ | refine blk_drew ?_ | refine blk_alloc ?_ _)); refine blk_far ?_ NB347_350.out _; (with_reducible repeat (first | refine blk_drewN ?_ _ | refine blk_drew ?_ | refine blk_alloc ?_ _)); exact BK347.out⟩, ⟨kk HK.out⟩, ⟨bl HB.out⟩⟩
   subst c12
   have H1 : (if x12_1 = t348 then ((impl_Turn.f k1 (true) ((rd_T79 x348001_1 x12_1).f1) ((rd_T79 x348001_1 x12_1).f2.f0) ((rd_T79 x348001_1 x12_1).f2.f1) ((rd_T79 x348001_1 x12_1).f2.f2) ((rd_T79 x348001_1 x12_1).f2.f3) ((rd_T79 x348001_1 x12_1).f3) ((rd_T79 x348001_1 x12_1).f4) ((rd_T79 x348001_1 x12_1).f5) ((rd_T79 x348001_1 x12_1).f6) ((rd_T79 x348001_1 x12_1).f7) 1).bind fun bt351 => (impl_Bridge_decide.l0 k1 t348 (l0_1.length : Int) (wrap64 (x12_1 + 1)) x348000_1 (x348001_1.set (x12_1 : Int).toNat (⟨bt351.1, bt351.2.1, (⟨bt351.2.2.1, bt351.2.2.2.1, bt351.2.2.2.2.1, bt351.2.2.2.2.2.1⟩ : S73), bt351.2.2.2.2.2.2.1, bt351.2.2.2.2.2.2.2.1, bt351.2.2.2.2.2.2.2.2.1, bt351.2.2.2.2.2.2.2.2.2.1, bt351.2.2.2.2.2.2.2.2.2.2⟩ : S79)))) else (if (rd_T79 x348001_1 x12_1).f1 = true then ((impl_Bridge_own.f k1 x348000_1 x348001_1 x12_1).bind fun bt363 => ((impl_Better.f k1 ((rd_T79 x348001_1 x12_1).f2.f0) ((rd_T79 x348001_1 x12_1).f2.f1) ((rd_T79 x348001_1 x12_1).f2.f2) ((rd_T79 x348001_1 x12_1).f2.f3) bt363.1 bt363.2.1 bt363.2.2.1 bt363.2.2.2).bind fun t367 => (impl_Bridge_decide.j1 k1 t348 x12_1 (l0_1.length : Int) x12_1 t367 x348000_1 x348001_1 true ((rd_T79 x348001_1 x12_1).f1) ((rd_T79 x348001_1 x12_1).f2.f0) ((rd_T79 x348001_1 x12_1).f2.f1) ((rd_T79 x348001_1 x12_1).f2.f2) ((rd_T79 x348001_1 x12_1).f2.f3) ((rd_T79 x348001_1 x12_1).f3) ((rd_T79 x348001_1 x12_1).f4) ((rd_T79 x348001_1 x12_1).f5) ((rd_T79 x348001_1 x12_1).f6) ((rd_T79 x348001_1 x12_1).f7)))) else (impl_Bridge_decide.j1 k1 t348 x12_1 (l0_1.length : Int) x12_1 false x348000_1 x348001_1 true ((rd_T79 x348001_1 x12_1).f1) ((rd_T79 x348001_1 x12_1).f2.f0) ((rd_T79 x348001_1 x12_1).f2.f1) ((rd_T79 x348001_1 x12_1).f2.f2) ((rd_T79 x348001_1 x12_1).f2.f3) ((rd_T79 x348001_1 x12_1).f3) ((rd_T79 x348001_1 x12_1).f4) ((rd_T79 x348001_1 x12_1).f5) ((rd_T79 x348001_1 x12_1).f6) ((rd_T79 x348001_1 x12_1).f7)))) = some r := by rw [if_pos rfl] at H; exact H
   clear H
   have H := H1
   clear H1
   by_cases c13 : x12_1 = t348
   case pos =>
    rw [if_pos c13] at H
    have c13b0 : (x12_1 == t348) = true := beq_iff_eq.mpr c13
    have c13b1 : (x12_1 != t348) = false := bne_eq_false_iff_eq.mpr c13
    clear c13
    replace H := Option.bind_eq_some_iff.mp H
    obtain ⟨⟨t351, t352, t353, t354, t355, t356, t357, t358, t359, t360, t361⟩, A140, H⟩ := H
    replace H : (impl_Bridge_decide.l0 k1 t348 (l0_1.length : Int) (wrap64 (x12_1 + 1)) x348000_1 (x348001_1.set (x12_1 : Int).toNat (⟨t351, t352, (⟨t353, t354, t355, t356⟩ : S73), t357, t358, t359, t360, t361⟩ : S79))) = some r := H
    have A14 := aM A140
    clear A140
    obtain ⟨y362, hy362⟩ : ∃ y_ : List (S79), y_ = (x348001_1.set (x12_1 : Int).toNat (⟨t351, t352, (⟨t353, t354, t355, t356⟩ : S73), t357, t358, t359, t360, t361⟩ : S79)) := ⟨_, rfl⟩
    replace H : (impl_Bridge_decide.l0 k1 t348 (l0_1.length : Int) (wrap64 (x12_1 + 1)) x348000_1 y362) = some r := by first | (rw [hy362]; with_reducible exact H) | (have H2_ := (Option.bind_some _ _).symm.trans H; rw [hy362]; with_reducible exact H2_) | (have H2_ := (Option.bind_some _ _).symm.trans H; with_reducible exact H2_) | with_reducible exact H | (rw [hy362]; exact H) | exact H
    have Ny362 := aM hy362
    clear hy362
    have H' := aM H
    clear H
    have hcz16 := cA2 BK347.out
    have p349 : 0 ≤ (x12_1 : Int) := of_decide_eq_true (by first | (with_reducible assumption) | assumption)
    have q349 : x12_1 < (x348001_1.length : Int) := of_decide_eq_true (by first | (with_reducible assumption) | assumption)
    obtain ⟨ad349, e349, hx349_0, hx349_1, hx349_2, hx349_3, hx349_4, hx349_5, hx349_6, hx349_7, hx349_8, hx349_9, hx349_10⟩ := at_T79 (Kd.R_reads' HO_348001.out).2.2 x12_1 p349 q349
    (try rw [← Nbq11.out] at hx349_0)
    (try rw [← Nbq11.out] at hx349_1)
    (try rw [← Nbq11.out] at hx349_10)
    cases e349
    replace p349 := eq_true p349
    replace q349 := eq_true q349
    try go_wp2_with (first | ((with_reducible refine gD (N := 4) rfl ?_); refine box_event ?hg (N := 4) ?hd (cs := #[.bool false, .bool false, .int .i64 0, .int .i64 0, .int .i64 0, .int .i64 0, .int .i64 0, .int .i64 0, .int .i64 0, .int .i64 0, .bool false]) (t := 79) ?hr ?_; (case hd => rfl); (case hg => rfl); (case hr => first | (go_simp; done) | (go_simp; rfl) | (obtain ⟨A_, c_, e_⟩ := Kd.R_slice HO_348001.out; subst e_; (first | (go_simp; done) | (go_simp; rfl))) | (obtain ⟨A_, c_, e_⟩ := Kd.S_slice HO_348001.out; subst e_; (first | (go_simp; done) | (go_simp; rfl)))); intro gb350 hg w17 hbox hb; have BK350 := aM (hbox); have GW350 := gE hg (kk HK.out).1; have GE350 := gE hg (below_size (bl HB.out)); have NB347_350 := nL hg (blk_lt (bk BK347.out)); have NB350_347 := nG hg (blk_lt (bk BK347.out)); replace HO_348001 := aM (kB (Kd.R_elderB (kr HO_348001.out) gb350 (Nat.le_of_eq hg.symm)) hb); replace BK347 := aM (bB (bk BK347.out) hb); replace HK := aM (Kept.below (S := (fun k_ => P0_1_ k_)) (kk HK.out) hb); replace HB := aM (bS (bl HB.out) hb); clear hb hbox hg; have hnb18 := NB350_347.out; have hnc18 := NB347_350.out; have hcz19 := cA11 BK350.out))
    refine nW (fun W => Aside0 (Kd.R k79 79 W w0.heap.size (fun k_ => (P0_1_ k_ ∨ w.heap.size ≤ k_) ∧ k_ ≠ gb350) (.slice (some ad349) x348001_1.length co3) x348001_1) ∧ Aside0 (W.heap[gb]? = some (.cells #[.int .i64 x348000_1, .slice (some ad349) x348001_1.length co3] 28 (0, 0))) ∧ Aside0 (W.heap[gb350]? = some (.cells #[.bool true, .bool ((rd_T79 x348001_1 x12_1).f1), .int .i64 ((rd_T79 x348001_1 x12_1).f2.f0), .int .i64 ((rd_T79 x348001_1 x12_1).f2.f1), .int .i64 ((rd_T79 x348001_1 x12_1).f2.f2), .int .i64 ((rd_T79 x348001_1 x12_1).f2.f3), .int .i64 ((rd_T79 x348001_1 x12_1).f3), .int .i64 ((rd_T79 x348001_1 x12_1).f4), .int .i64 ((rd_T79 x348001_1 x12_1).f5), .int .i64 ((rd_T79 x348001_1 x12_1).f6), .bool ((rd_T79 x348001_1 x12_1).f7)] 79 (0, 0))) ∧ Aside0 (Kept w W (fun k_ => P0_1_ k_)) ∧ Aside0 (Below w0.heap.size w0 W)) ⟨⟨kr (Kd.R_mono (kF (p := ⟨gb350, 10, none⟩) (kF (p := ⟨gb350, 9, none⟩) (kF (p := ⟨gb350, 8, none⟩) (kF (p := ⟨gb350, 7, none⟩) (kF (p := ⟨gb350, 6, none⟩) (kF (p := ⟨gb350, 5, none⟩) (kF (p := ⟨gb350, 4, none⟩) (kF (p := ⟨gb350, 3, none⟩) (kF (p := ⟨gb350, 2, none⟩) (kF (p := ⟨gb350, 1, none⟩) (kF (p := ⟨gb350, 0, none⟩) (Kd.R_mono HO_348001.out (fun k_ hk => (⟨hk, hk.2⟩ : _ ∧ k_ ≠ gb350))) (fun _ hk => hk.2) (.bool true)) (fun _ hk => hk.2) (.bool ((rd_T79 x348001_1 x12_1).f1))) (fun _ hk => hk.2) (.int .i64 ((rd_T79 x348001_1 x12_1).f2.f0))) (fun _ hk => hk.2) (.int .i64 ((rd_T79 x348001_1 x12_1).f2.f1))) (fun _ hk => hk.2) (.int .i64 ((rd_T79 x348001_1 x12_1).f2.f2))) (fun _ hk => hk.2) (.int .i64 ((rd_T79 x348001_1 x12_1).f2.f3))) (fun _ hk => hk.2) (.int .i64 ((rd_T79 x348001_1 x12_1).f3))) (fun _ hk => hk.2) (.int .i64 ((rd_T79 x348001_1 x12_1).f4))) (fun _ hk => hk.2) (.int .i64 ((rd_T79 x348001_1 x12_1).f5))) (fun _ hk => hk.2) (.int .i64 ((rd_T79 x348001_1 x12_1).f6))) (fun _ hk => hk.2) (.bool ((rd_T79 x348001_1 x12_1).f7))) (fun _ hk => ⟨hk.1.1, hk.1.2⟩))⟩, ⟨fm BK347.out⟩, ⟨pA11 (fm BK350.out)⟩, ⟨kk HK.out⟩, ⟨bl HB.out⟩⟩ ?_
    intro w20 nn_
    replace HO_348001 := nn_.1
    replace BK347 := nn_.2.1
    replace BK350 := nn_.2.2.1
    replace HK := nn_.2.2.2.1
    replace HB := nn_.2.2.2.2
    clear nn_
    replace HO_348001 := aM (Kd.R_drew HO_348001.out)
    replace BK347 := aM (blk_drew BK347.out)
    replace BK350 := aM (blk_drew BK350.out)
    replace HK := aM (Kept.drew HK.out)
    replace HB := aM (below_drew1 HB.out)
    refine start_ (n := 9) (S := fun w' => cT2 w' gb (.int .i64 x348000_1) (.slice (some ad349) x348001_1.length co3) (cS11 w' gb350 (.bool true) (.bool ((rd_T79 x348001_1 x12_1).f1)) (.int .i64 ((rd_T79 x348001_1 x12_1).f2.f0)) (.int .i64 ((rd_T79 x348001_1 x12_1).f2.f1)) (.int .i64 ((rd_T79 x348001_1 x12_1).f2.f2)) (.int .i64 ((rd_T79 x348001_1 x12_1).f2.f3)) (.int .i64 ((rd_T79 x348001_1 x12_1).f3)) (.int .i64 ((rd_T79 x348001_1 x12_1).f4)) (.int .i64 ((rd_T79 x348001_1 x12_1).f5)) (.int .i64 ((rd_T79 x348001_1 x12_1).f6)) (.bool ((rd_T79 x348001_1 x12_1).f7)))) (ds := [8]) (dn 9 0) (by kernel_rfl) rfl rfl ⟨cI BK347.out 0, cI BK347.out 1, cI BK350.out 0, cI BK350.out 1, cI BK350.out 2, cI BK350.out 3, cI BK350.out 4, cI BK350.out 5, cI BK350.out 6, cI BK350.out 7, cI BK350.out 8, cI BK350.out 9, cI BK350.out 10⟩ (fun hHeld => ?_); refine with_tabW impl_Bridge_decide.tab7 impl_Bridge_decide.bits7 (fun HT_ HW_ => ?_)
    generalize w20.drew = w21 at HO_348001 BK347 BK350 HK HB hHeld ⊢
    refine nY (N := some 33) HT_ ?_
    refine nY (N := some 34) HT_ ?_
    refine nY (N := some 35) HT_ ?_
    refine pY (i := 4) (N := some 37) #[Y,Y,Y,U,Y,U,U,U,U] HT_ ?_
    refine aY (i := 3) (N := some 36) #[Y,Y,Y,Y,Y,U,U,U,U] HT_ HW_ hHeld ?_
    refine aY (i := 5) (N := some 38) #[Y,Y,Y,Y,Y,Y,U,U,U] HT_ HW_ hHeld ?_
    refine one_ (i := 6) (N := some 39) #[Y,Y,Y,Y,Y,Y,Y,U,U] rfl rfl (one_of HT_.out (by kernel_rfl)) (by decide) (fun K hK => ?_)
    refine goes_ Try.func145 (by kernel_rfl) rfl #[.agg #[.bool true, .bool ((rd_T79 x348001_1 x12_1).f1), .int .i64 ((rd_T79 x348001_1 x12_1).f2.f0), .int .i64 ((rd_T79 x348001_1 x12_1).f2.f1), .int .i64 ((rd_T79 x348001_1 x12_1).f2.f2), .int .i64 ((rd_T79 x348001_1 x12_1).f2.f3), .int .i64 ((rd_T79 x348001_1 x12_1).f3), .int .i64 ((rd_T79 x348001_1 x12_1).f4), .int .i64 ((rd_T79 x348001_1 x12_1).f5), .int .i64 ((rd_T79 x348001_1 x12_1).f6), .bool ((rd_T79 x348001_1 x12_1).f7)], .int .i64 1] (by rfl) rfl rfl xR ?_
    with_reducible refine (impl_Turn.calls k1 true ((rd_T79 x348001_1 x12_1).f1) ((rd_T79 x348001_1 x12_1).f2.f0) ((rd_T79 x348001_1 x12_1).f2.f1) ((rd_T79 x348001_1 x12_1).f2.f2) ((rd_T79 x348001_1 x12_1).f2.f3) ((rd_T79 x348001_1 x12_1).f3) ((rd_T79 x348001_1 x12_1).f4) ((rd_T79 x348001_1 x12_1).f5) ((rd_T79 x348001_1 x12_1).f6) ((rd_T79 x348001_1 x12_1).f7) 1 t351 t352 t353 t354 t355 t356 t357 t358 t359 t360 t361 _ A14.out).mono ?_
    rintro e w22 ⟨rfl, hb⟩
    refine ⟨_, rfl, ?_⟩
    replace HO_348001 := aM (kB (kr HO_348001.out) hb)
    replace BK347 := aM (bB (bk BK347.out) hb)
    replace BK350 := aM (bB (bk BK350.out) hb)
    replace HK := aM (Kept.below (S := (fun k_ => P0_1_ k_)) (kk HK.out) hb)
    replace HB := aM (bS (bl HB.out) hb)
    (try clear hb)
    (try clear hb2)
    (try clear hk)
    (try clear hi)
    have p15 : 0 ≤ (x12_1 : Int) := of_decide_eq_true (by first | (with_reducible assumption) | assumption)
    have q15 : (x12_1 : Int) < ((x348001_1.length : Int) : Int) := of_decide_eq_true (by first | (with_reducible assumption) | assumption)
    obtain ⟨go15, co15, eo15, gb15, gl15, cl15, HG15⟩ := Kd.R_form HO_348001.out (by omega)
    (first | cases eo15 | (injection eo15 with ea_ en_ ec_; (first | subst ea_ | (injection ea_ with ea_; subst ea_)); subst ec_; clear en_))
    have GB15 := aM gb15
    have GG15 := aM HG15
    clear gb15 gl15 HG15
    have HMgo15 := aM (show (P0_1_ go15 ∨ w.heap.size ≤ go15) from (HO_348001.out.1 _ rfl).1)
    (first | simp only [add_plain] at hx349_0 | skip)
    (first | simp only [add_plain] at hx349_1 | skip)
    (first | simp only [add_plain] at hx349_2 | skip)
    (first | simp only [add_plain] at hx349_3 | skip)
    (first | simp only [add_plain] at hx349_4 | skip)
    (first | simp only [add_plain] at hx349_5 | skip)
    (first | simp only [add_plain] at hx349_6 | skip)
    (first | simp only [add_plain] at hx349_7 | skip)
    (first | simp only [add_plain] at hx349_8 | skip)
    (first | simp only [add_plain] at hx349_9 | skip)
    (first | simp only [add_plain] at hx349_10 | skip)
    obtain ⟨ce15, hcl15, hM15, hcc15, hfr15⟩ := Kd.R_elem HO_348001.out z79 (x12_1 : Int) p15 q15
    obtain rfl := k79_openM hM15
    have hx15_0 : World.cell? _ ⟨go15, (x12_1 : Int).toNat * 11, none⟩ = some (.bool ((rd_T79 x348001_1 x12_1).f0)) := hcc15 0 _ rfl
    have hx15_1 : World.cell? _ ⟨go15, (x12_1 : Int).toNat * 11 + 1, none⟩ = some (.bool ((rd_T79 x348001_1 x12_1).f1)) := hcc15 1 _ rfl
    have hx15_2 : World.cell? _ ⟨go15, (x12_1 : Int).toNat * 11 + 2, none⟩ = some (.int .i64 ((rd_T79 x348001_1 x12_1).f2.f0)) := hcc15 2 _ rfl
    have hx15_3 : World.cell? _ ⟨go15, (x12_1 : Int).toNat * 11 + 3, none⟩ = some (.int .i64 ((rd_T79 x348001_1 x12_1).f2.f1)) := hcc15 3 _ rfl
    have hx15_4 : World.cell? _ ⟨go15, (x12_1 : Int).toNat * 11 + 4, none⟩ = some (.int .i64 ((rd_T79 x348001_1 x12_1).f2.f2)) := hcc15 4 _ rfl
    have hx15_5 : World.cell? _ ⟨go15, (x12_1 : Int).toNat * 11 + 5, none⟩ = some (.int .i64 ((rd_T79 x348001_1 x12_1).f2.f3)) := hcc15 5 _ rfl
    have hx15_6 : World.cell? _ ⟨go15, (x12_1 : Int).toNat * 11 + 6, none⟩ = some (.int .i64 ((rd_T79 x348001_1 x12_1).f3)) := hcc15 6 _ rfl
    have hx15_7 : World.cell? _ ⟨go15, (x12_1 : Int).toNat * 11 + 7, none⟩ = some (.int .i64 ((rd_T79 x348001_1 x12_1).f4)) := hcc15 7 _ rfl
    have hx15_8 : World.cell? _ ⟨go15, (x12_1 : Int).toNat * 11 + 8, none⟩ = some (.int .i64 ((rd_T79 x348001_1 x12_1).f5)) := hcc15 8 _ rfl
    have hx15_9 : World.cell? _ ⟨go15, (x12_1 : Int).toNat * 11 + 9, none⟩ = some (.int .i64 ((rd_T79 x348001_1 x12_1).f6)) := hcc15 9 _ rfl
    have hx15_10 : World.cell? _ ⟨go15, (x12_1 : Int).toNat * 11 + 10, none⟩ = some (.bool ((rd_T79 x348001_1 x12_1).f7)) := hcc15 10 _ rfl
    have hf15_0 : World.frozen? _ ⟨go15, (x12_1 : Int).toNat * 11, none⟩ = false := hfr15 0
    have hf15_1 : World.frozen? _ ⟨go15, (x12_1 : Int).toNat * 11 + 1, none⟩ = false := hfr15 1
    have hf15_2 : World.frozen? _ ⟨go15, (x12_1 : Int).toNat * 11 + 2, none⟩ = false := hfr15 2
    have hf15_3 : World.frozen? _ ⟨go15, (x12_1 : Int).toNat * 11 + 3, none⟩ = false := hfr15 3
    have hf15_4 : World.frozen? _ ⟨go15, (x12_1 : Int).toNat * 11 + 4, none⟩ = false := hfr15 4
    have hf15_5 : World.frozen? _ ⟨go15, (x12_1 : Int).toNat * 11 + 5, none⟩ = false := hfr15 5
    have hf15_6 : World.frozen? _ ⟨go15, (x12_1 : Int).toNat * 11 + 6, none⟩ = false := hfr15 6
    have hf15_7 : World.frozen? _ ⟨go15, (x12_1 : Int).toNat * 11 + 7, none⟩ = false := hfr15 7
    have hf15_8 : World.frozen? _ ⟨go15, (x12_1 : Int).toNat * 11 + 8, none⟩ = false := hfr15 8
    have hf15_9 : World.frozen? _ ⟨go15, (x12_1 : Int).toNat * 11 + 9, none⟩ = false := hfr15 9
    have hf15_10 : World.frozen? _ ⟨go15, (x12_1 : Int).toNat * 11 + 10, none⟩ = false := hfr15 10
    clear hcl15 hcc15 hfr15 hM15
    replace p15 := eq_true p15
    replace q15 := eq_true q15
    obtain ⟨ce23, hcl23, hM23, hcc23, hfr23⟩ := Kd.R_elem HO_348001.out z79 (x12_1 : Int) (of_decide_eq_true (by first | (with_reducible assumption) | assumption)) (by have h_ : (x12_1 : Int) < ((x348001_1.length : Int) : Int) := of_decide_eq_true (by first | (with_reducible assumption) | assumption); first | exact h_ | (have e_ := (Kd.R_reads' HO_348001.out).1; omega) | simpa using h_)
    obtain rfl := k79_openM hM23
    have HP23 := (Kd.R_seg HO_348001.out (x12_1 : Int) (of_decide_eq_true (by first | (with_reducible assumption) | assumption)) (by have h_ : (x12_1 : Int) < ((x348001_1.length : Int) : Int) := of_decide_eq_true (by first | (with_reducible assumption) | assumption); first | exact h_ | (have e_ := (Kd.R_reads' HO_348001.out).1; omega) | simpa using h_) (seg := [.bool t351, .bool t352, .int .i64 t353, .int .i64 t354, .int .i64 t355, .int .i64 t356, .int .i64 t357, .int .i64 t358, .int .i64 t359, .int .i64 t360, .bool t361]) (j := 0) hcl23 hcc23 (show 11 ≤ 11 from by decide) (x' := (⟨t351, t352, (⟨t353, t354, t355, t356⟩ : S73), t357, t358, t359, t360, t361⟩ : S79)) (k79_mkM _ _ _ (⟨t351, t352, (⟨t353, t354, t355, t356⟩ : S73), t357, t358, t359, t360, t361⟩ : S79) ) (fun _ hk => hk)).1
    rw [← Ny362.out] at HP23
    have HQ23 := aM HP23
    clear hcl23 hcc23 hfr23 hM23 HP23
    refine hK.out _ _ ⟨cI BK347.out 0, cI BK347.out 1, cI BK350.out 0, cI BK350.out 1, cI BK350.out 2, cI BK350.out 3, cI BK350.out 4, cI BK350.out 5, cI BK350.out 6, cI BK350.out 7, cI BK350.out 8, cI BK350.out 9, cI BK350.out 10⟩ (fun hHeld => ?_)
    clear hK K
    refine norm_ (a' := ?_) ?_ ?_
    rotate_left
    ·show Act.put _ (some 39) _ = _
     simp only [Act.put, sA, sZ, sS, i64_w, i32_w]
     rfl
    refine pY (i := 7) (N := some 40) #[Y,Y,Y,Y,Y,Y,Y,Y,U] HT_ ?_
    refine last_ (i := 8) (N := none) #[Y,Y,Y,Y,Y,Y,Y,Y,Y] rfl rfl (one_of HT_.out (by kernel_rfl)) (by decide) (fun K hK => ?_)
    refine skip_ (w1 := ?_) (by rfl) rfl ?_ ?_
    rotate_left
    ·go_simp
     rfl
    refine hK.out _ _ ?_
    clear hK K
    refine done_ (done_of HT_.out (by kernel_rfl)) ?_
    try go_wp2
    (try simp only [← hl348001_1])
    go_roundg k1
    case measure => have := HK1.out; omega
    case rel => (try rw [← Nbq11.out]); (try rw [← Nbq29.out]); exact ⟨(wrap64 (x12_1 + 1)), (x348000_1), (y362), xE, H', ⟨by have := HK1.out; omega⟩, ⟨by (try simp only [hl348001_1]); (with_reducible repeat (first | apply Kd.R_alloc | apply Kd.R_drewN | apply Kd.R_drew)); exact Kd.R_mono HQ23.out (fun _ hk => hk.1)⟩, ⟨by (try simp only [hl348001_1]); (with_reducible repeat (first | refine blk_drewN ?_ _ | refine blk_drew ?_ | refine blk_alloc ?_ _)); refine blk_far ?_ (by have h_ := Kd.R_ne HO_348001.out BK347.out (by decide); intro e_; exact h_ (by rw [e_]; rfl)) _; (with_reducible repeat (first | refine blk_drewN ?_ _ | refine blk_drew ?_ | refine blk_alloc ?_ _)); refine blk_far ?_ (by have h_ := Kd.R_ne HO_348001.out BK347.out (by decide); intro e_; exact h_ (by rw [e_]; rfl)) _; (with_reducible repeat (first | refine blk_drewN ?_ _ | refine blk_drew ?_ | refine blk_alloc ?_ _)); refine blk_far ?_ (by have h_ := Kd.R_ne HO_348001.out BK347.out (by decide); intro e_; exact h_ (by rw [e_]; rfl)) _; (with_reducible repeat (first | refine blk_drewN ?_ _ | refine blk_drew ?_ | refine blk_alloc ?_ _)); refine blk_far ?_ (by have h_ := Kd.R_ne HO_348001.out BK347.out (by decide); intro e_; exact h_ (by rw [e_]; rfl)) _; (with_reducible repeat (first | refine blk_drewN ?_ _ | refine blk_drew ?_ | refine blk_alloc ?_ _)); refine blk_far ?_ (by have h_ := Kd.R_ne HO_348001.out BK347.out (by decide); intro e_; exact h_ (by rw [e_]; rfl)) _; (with_reducible repeat (first | refine blk_drewN ?_ _ | refine blk_drew ?_ | refine blk_alloc ?_ _)); refine blk_far ?_ (by have h_ := Kd.R_ne HO_348001.out BK347.out (by decide); intro e_; exact h_ (by rw [e_]; rfl)) _; (with_reducible repeat (first | refine blk_drewN ?_ _ | refine blk_drew ?_ | refine blk_alloc ?_ _)); refine blk_far ?_ (by have h_ := Kd.R_ne HO_348001.out BK347.out (by decide); intro e_; exact h_ (by rw [e_]; rfl)) _; (with_reducible repeat (first | refine blk_drewN ?_ _ | refine blk_drew ?_ | refine blk_alloc ?_ _)); refine blk_far ?_ (by have h_ := Kd.R_ne HO_348001.out BK347.out (by decide); intro e_; exact h_ (by rw [e_]; rfl)) _; (with_reducible repeat (first | refine blk_drewN ?_ _ | refine blk_drew ?_ | refine blk_alloc ?_ _)); refine blk_far ?_ (by have h_ := Kd.R_ne HO_348001.out BK347.out (by decide); intro e_; exact h_ (by rw [e_]; rfl)) _; (with_reducible repeat (first | refine blk_drewN ?_ _ | refine blk_drew ?_ | refine blk_alloc ?_ _)); refine blk_far ?_ (by have h_ := Kd.R_ne HO_348001.out BK347.out (by decide); intro e_; exact h_ (by rw [e_]; rfl)) _; (with_reducible repeat (first | refine blk_drewN ?_ _ | refine blk_drew ?_ | refine blk_alloc ?_ _)); refine blk_far ?_ (by have h_ := Kd.R_ne HO_348001.out BK347.out (by decide); intro e_; exact h_ (by rw [e_]; rfl)) _; (with_reducible repeat (first | refine blk_drewN ?_ _ | refine blk_drew ?_ | refine blk_alloc ?_ _)); exact BK347.out⟩, ⟨by repeat (first | (with_reducible first | exact HK.out | apply Kept.alloc | apply Kept.drewN | apply Kept.drew | refine Kept.setCell ?_ HMgo15.out _ | refine Kept.setCell ?_ HMgo15.out _ | refine Kept.setCell ?_ HMgo15.out _ | refine Kept.setCell ?_ HMgo15.out _ | refine Kept.setCell ?_ HMgo15.out _ | refine Kept.setCell ?_ HMgo15.out _ | refine Kept.setCell ?_ HMgo15.out _ | refine Kept.setCell ?_ HMgo15.out _ | refine Kept.setCell ?_ HMgo15.out _ | refine Kept.setCell ?_ HMgo15.out _ | refine Kept.setCell ?_ HMgo15.out _ | refine Kept.setCell ?_ (.inr GW347.out) _ | refine Kept.setCell ?_ (.inr GW350.out) _) | exact HK.out)⟩, ⟨by repeat (first | (with_reducible first | exact HB.out | apply below_alloc | apply pw_below_drewN | apply below_drew1 | refine below_set ?_ GB15.out | refine below_set ?_ GB15.out | refine below_set ?_ GB15.out | refine below_set ?_ GB15.out | refine below_set ?_ GB15.out | refine below_set ?_ GB15.out | refine below_set ?_ GB15.out | refine below_set ?_ GB15.out | refine below_set ?_ GB15.out | refine below_set ?_ GB15.out | refine below_set ?_ GB15.out | refine below_set ?_ GE347.out | refine below_set ?_ GE350.out) | exact HB.out)⟩⟩
   rw [if_neg c13] at H
   have c13b0 : (x12_1 == t348) = false := beq_eq_false_iff_ne.mpr c13
   have c13b1 : (x12_1 != t348) = true := bne_iff_ne.mpr c13
   have HC24 := aM H
   clear H
   have hcz25 := cA2 BK347.out
   have p349 : 0 ≤ (x12_1 : Int) := of_decide_eq_true (by first | (with_reducible assumption) | assumption)
   have q349 : x12_1 < (x348001_1.length : Int) := of_decide_eq_true (by first | (with_reducible assumption) | assumption)
   obtain ⟨ad349, e349, hx349_0, hx349_1, hx349_2, hx349_3, hx349_4, hx349_5, hx349_6, hx349_7, hx349_8, hx349_9, hx349_10⟩ := at_T79 (Kd.R_reads' HO_348001.out).2.2 x12_1 p349 q349
   (try rw [← Nbq11.out] at hx349_0)
   (try rw [← Nbq11.out] at hx349_1)
   (try rw [← Nbq11.out] at hx349_10)
   cases e349
   replace p349 := eq_true p349
   replace q349 := eq_true q349
   go_upto_region 8 with (first | ((with_reducible refine gD (N := 4) rfl ?_); refine box_event ?hg (N := 4) ?hd (cs := #[.bool false, .bool false, .int .i64 0, .int .i64 0, .int .i64 0, .int .i64 0, .int .i64 0, .int .i64 0, .int .i64 0, .int .i64 0, .bool false]) (t := 79) ?hr ?_; (case hd => rfl); (case hg => rfl); (case hr => first | (go_simp; done) | (go_simp; rfl) | (obtain ⟨A_, c_, e_⟩ := Kd.R_slice HO_348001.out; subst e_; (first | (go_simp; done) | (go_simp; rfl))) | (obtain ⟨A_, c_, e_⟩ := Kd.S_slice HO_348001.out; subst e_; (first | (go_simp; done) | (go_simp; rfl)))); intro gb350 hg w26 hbox hb; have BK350 := aM (hbox); have GW350 := gE hg (kk HK.out).1; have GE350 := gE hg (below_size (bl HB.out)); have NB347_350 := nL hg (blk_lt (bk BK347.out)); have NB350_347 := nG hg (blk_lt (bk BK347.out)); replace HO_348001 := aM (kB (Kd.R_elderB (kr HO_348001.out) gb350 (Nat.le_of_eq hg.symm)) hb); replace BK347 := aM (bB (bk BK347.out) hb); replace HK := aM (Kept.below (S := (fun k_ => P0_1_ k_)) (kk HK.out) hb); replace HB := aM (bS (bl HB.out) hb); clear hb hbox hg; have hnb27 := NB350_347.out; have hnc27 := NB347_350.out; have hcz28 := cA11 BK350.out))
   (try simp only [Act.put, sA, sZ, sS])
   go_cut [41] (fun v41 wc => ∃ (kq : Nat) (x41_23 : Bool) (x348000_23 : Int), v41 = .bool x41_23 ∧ Aside0 (impl_Bridge_decide.j1 kq t348 x12_1 (l0_1.length : Int) x12_1 x41_23 x348000_23 x348001_1 true ((rd_T79 x348001_1 x12_1).f1) ((rd_T79 x348001_1 x12_1).f2.f0) ((rd_T79 x348001_1 x12_1).f2.f1) ((rd_T79 x348001_1 x12_1).f2.f2) ((rd_T79 x348001_1 x12_1).f2.f3) ((rd_T79 x348001_1 x12_1).f3) ((rd_T79 x348001_1 x12_1).f4) ((rd_T79 x348001_1 x12_1).f5) ((rd_T79 x348001_1 x12_1).f6) ((rd_T79 x348001_1 x12_1).f7) = some r) ∧ Aside0 (kq ≤ k1) ∧ Aside0 (Kd.R k79 79 wc w0.heap.size (fun k_ => (P0_1_ k_ ∨ w.heap.size ≤ k_) ∧ k_ ≠ gb350) (.slice (some ad349) x348001_1.length co3) x348001_1) ∧ Aside0 (wc.heap[gb]? = some (.cells #[.int .i64 x348000_23, (.slice (some ad349) x348001_1.length co3)] 28 (0, 0))) ∧ Aside0 (wc.heap[gb350]? = some (.cells #[.bool true, .bool ((rd_T79 x348001_1 x12_1).f1), .int .i64 ((rd_T79 x348001_1 x12_1).f2.f0), .int .i64 ((rd_T79 x348001_1 x12_1).f2.f1), .int .i64 ((rd_T79 x348001_1 x12_1).f2.f2), .int .i64 ((rd_T79 x348001_1 x12_1).f2.f3), .int .i64 ((rd_T79 x348001_1 x12_1).f3), .int .i64 ((rd_T79 x348001_1 x12_1).f4), .int .i64 ((rd_T79 x348001_1 x12_1).f5), .int .i64 ((rd_T79 x348001_1 x12_1).f6), .bool ((rd_T79 x348001_1 x12_1).f7)] 79 (0, 0))) ∧ Aside0 (Kept w wc (fun k_ => P0_1_ k_)) ∧ Aside0 (Below w0.heap.size w0 wc))
   case first =>
    have H := HC24.out
    clear HC24
    obtain ⟨bq29, hbq29⟩ : ∃ b_ : Bool, b_ = ((rd_T79 x348001_1 x12_1).f1) := ⟨_, rfl⟩
    replace H : (if bq29 = true then ((impl_Bridge_own.f k1 x348000_1 x348001_1 x12_1).bind fun bt363 => ((impl_Better.f k1 ((rd_T79 x348001_1 x12_1).f2.f0) ((rd_T79 x348001_1 x12_1).f2.f1) ((rd_T79 x348001_1 x12_1).f2.f2) ((rd_T79 x348001_1 x12_1).f2.f3) bt363.1 bt363.2.1 bt363.2.2.1 bt363.2.2.2).bind fun t367 => (impl_Bridge_decide.j1 k1 t348 x12_1 (l0_1.length : Int) x12_1 t367 x348000_1 x348001_1 true bq29 ((rd_T79 x348001_1 x12_1).f2.f0) ((rd_T79 x348001_1 x12_1).f2.f1) ((rd_T79 x348001_1 x12_1).f2.f2) ((rd_T79 x348001_1 x12_1).f2.f3) ((rd_T79 x348001_1 x12_1).f3) ((rd_T79 x348001_1 x12_1).f4) ((rd_T79 x348001_1 x12_1).f5) ((rd_T79 x348001_1 x12_1).f6) ((rd_T79 x348001_1 x12_1).f7)))) else (impl_Bridge_decide.j1 k1 t348 x12_1 (l0_1.length : Int) x12_1 false x348000_1 x348001_1 true bq29 ((rd_T79 x348001_1 x12_1).f2.f0) ((rd_T79 x348001_1 x12_1).f2.f1) ((rd_T79 x348001_1 x12_1).f2.f2) ((rd_T79 x348001_1 x12_1).f2.f3) ((rd_T79 x348001_1 x12_1).f3) ((rd_T79 x348001_1 x12_1).f4) ((rd_T79 x348001_1 x12_1).f5) ((rd_T79 x348001_1 x12_1).f6) ((rd_T79 x348001_1 x12_1).f7))) = some r := by rw [← hbq29] at H; exact H
    have Nbq29 := aM hbq29
    clear hbq29
    (try rw [← Nbq29.out])
    by_cases c30 : bq29 = true
    case neg =>
     replace c30 := Bool.eq_false_iff.mpr c30
     subst c30
     have H1 : (impl_Bridge_decide.j1 k1 t348 x12_1 (l0_1.length : Int) x12_1 false x348000_1 x348001_1 true false ((rd_T79 x348001_1 x12_1).f2.f0) ((rd_T79 x348001_1 x12_1).f2.f1) ((rd_T79 x348001_1 x12_1).f2.f2) ((rd_T79 x348001_1 x12_1).f2.f3) ((rd_T79 x348001_1 x12_1).f3) ((rd_T79 x348001_1 x12_1).f4) ((rd_T79 x348001_1 x12_1).f5) ((rd_T79 x348001_1 x12_1).f6) ((rd_T79 x348001_1 x12_1).f7)) = some r := by rw [if_neg (show ¬ (false = true) by decide)] at H; exact H
     clear H
     have H := H1
     clear H1
     have H' := aM H
     clear H
     try go_wp2
     refine nW (fun W => Aside0 (Kd.R k79 79 W w0.heap.size (fun k_ => (P0_1_ k_ ∨ w.heap.size ≤ k_) ∧ k_ ≠ gb350) (.slice (some ad349) x348001_1.length co3) x348001_1) ∧ Aside0 (W.heap[gb]? = some (.cells #[.int .i64 x348000_1, .slice (some ad349) x348001_1.length co3] 28 (0, 0))) ∧ Aside0 (W.heap[gb350]? = some (.cells #[.bool true, .bool false, .int .i64 ((rd_T79 x348001_1 x12_1).f2.f0), .int .i64 ((rd_T79 x348001_1 x12_1).f2.f1), .int .i64 ((rd_T79 x348001_1 x12_1).f2.f2), .int .i64 ((rd_T79 x348001_1 x12_1).f2.f3), .int .i64 ((rd_T79 x348001_1 x12_1).f3), .int .i64 ((rd_T79 x348001_1 x12_1).f4), .int .i64 ((rd_T79 x348001_1 x12_1).f5), .int .i64 ((rd_T79 x348001_1 x12_1).f6), .bool ((rd_T79 x348001_1 x12_1).f7)] 79 (0, 0))) ∧ Aside0 (Kept w W (fun k_ => P0_1_ k_)) ∧ Aside0 (Below w0.heap.size w0 W)) ⟨⟨kr (Kd.R_mono (kF (p := ⟨gb350, 10, none⟩) (kF (p := ⟨gb350, 9, none⟩) (kF (p := ⟨gb350, 8, none⟩) (kF (p := ⟨gb350, 7, none⟩) (kF (p := ⟨gb350, 6, none⟩) (kF (p := ⟨gb350, 5, none⟩) (kF (p := ⟨gb350, 4, none⟩) (kF (p := ⟨gb350, 3, none⟩) (kF (p := ⟨gb350, 2, none⟩) (kF (p := ⟨gb350, 1, none⟩) (kF (p := ⟨gb350, 0, none⟩) (Kd.R_mono HO_348001.out (fun k_ hk => (⟨hk, hk.2⟩ : _ ∧ k_ ≠ gb350))) (fun _ hk => hk.2) (.bool true)) (fun _ hk => hk.2) (.bool (false))) (fun _ hk => hk.2) (.int .i64 ((rd_T79 x348001_1 x12_1).f2.f0))) (fun _ hk => hk.2) (.int .i64 ((rd_T79 x348001_1 x12_1).f2.f1))) (fun _ hk => hk.2) (.int .i64 ((rd_T79 x348001_1 x12_1).f2.f2))) (fun _ hk => hk.2) (.int .i64 ((rd_T79 x348001_1 x12_1).f2.f3))) (fun _ hk => hk.2) (.int .i64 ((rd_T79 x348001_1 x12_1).f3))) (fun _ hk => hk.2) (.int .i64 ((rd_T79 x348001_1 x12_1).f4))) (fun _ hk => hk.2) (.int .i64 ((rd_T79 x348001_1 x12_1).f5))) (fun _ hk => hk.2) (.int .i64 ((rd_T79 x348001_1 x12_1).f6))) (fun _ hk => hk.2) (.bool ((rd_T79 x348001_1 x12_1).f7))) (fun _ hk => ⟨hk.1.1, hk.1.2⟩))⟩, ⟨fm BK347.out⟩, ⟨pA11 (fm BK350.out)⟩, ⟨kk HK.out⟩, ⟨bl HB.out⟩⟩ ?_
     intro w37 nn_
     replace HO_348001 := nn_.1
     replace BK347 := nn_.2.1
     replace BK350 := nn_.2.2.1
     replace HK := nn_.2.2.2.1
     replace HB := nn_.2.2.2.2
     clear nn_
     replace HO_348001 := aM (Kd.R_drew HO_348001.out)
     replace BK347 := aM (blk_drew BK347.out)
     replace BK350 := aM (blk_drew BK350.out)
     replace HK := aM (Kept.drew HK.out)
     replace HB := aM (below_drew1 HB.out)
     refine start_ (n := 11) (S := fun w' => cS11 w' gb350 (.bool true) (.bool false) (.int .i64 ((rd_T79 x348001_1 x12_1).f2.f0)) (.int .i64 ((rd_T79 x348001_1 x12_1).f2.f1)) (.int .i64 ((rd_T79 x348001_1 x12_1).f2.f2)) (.int .i64 ((rd_T79 x348001_1 x12_1).f2.f3)) (.int .i64 ((rd_T79 x348001_1 x12_1).f3)) (.int .i64 ((rd_T79 x348001_1 x12_1).f4)) (.int .i64 ((rd_T79 x348001_1 x12_1).f5)) (.int .i64 ((rd_T79 x348001_1 x12_1).f6)) (.bool ((rd_T79 x348001_1 x12_1).f7))) (ds := []) (dn 11 0) (by kernel_rfl) rfl rfl ⟨cI BK350.out 0, cI BK350.out 1, cI BK350.out 2, cI BK350.out 3, cI BK350.out 4, cI BK350.out 5, cI BK350.out 6, cI BK350.out 7, cI BK350.out 8, cI BK350.out 9, cI BK350.out 10⟩ (fun hHeld => ?_); refine with_tabW impl_Bridge_decide.tab8 impl_Bridge_decide.bits8 (fun HT_ HW_ => ?_)
     generalize w37.drew = w38 at HO_348001 BK347 BK350 HK HB hHeld ⊢
     refine nY (N := some 42) HT_ ?_
     refine tY (N := some 43) HT_ HW_ hHeld ?_
     refine nY (N := some 44) HT_ ?_
     refine nU (N := some 45) HT_ ?_
     refine nU (N := some 46) HT_ ?_
     refine nU (N := some 47) HT_ ?_
     refine nU (N := some 48) HT_ ?_
     refine nU (N := some 49) HT_ ?_
     refine nU (N := some 50) HT_ ?_
     refine nY (N := some 51) HT_ ?_
     refine nY (N := some 41) HT_ ?_
     refine done_ (done_of HT_.out (by kernel_rfl)) ?_
     try go_wp2
     go_meet
     case rel => (try rw [← Nbq11.out]); (try rw [← Nbq29.out]); exact ⟨_, (false), (x348000_1), xE, H', ⟨by have := HK1.out; first | omega | exact Nat.le_refl _⟩, ⟨by (try simp only [hl348001_1]); (with_reducible repeat (first | apply Kd.R_alloc | apply Kd.R_drewN | apply Kd.R_drew)); exact HO_348001.out⟩, ⟨by (try simp only [hl348001_1]); (with_reducible repeat (first | refine blk_drewN ?_ _ | refine blk_drew ?_ | refine blk_alloc ?_ _)); exact BK347.out⟩, ⟨by (try simp only [hl348001_1]); (with_reducible repeat (first | refine blk_drewN ?_ _ | refine blk_drew ?_ | refine blk_alloc ?_ _)); exact BK350.out⟩, ⟨kk HK.out⟩, ⟨bl HB.out⟩⟩
    subst c30
    have H1 : ((impl_Bridge_own.f k1 x348000_1 x348001_1 x12_1).bind fun bt363 => ((impl_Better.f k1 ((rd_T79 x348001_1 x12_1).f2.f0) ((rd_T79 x348001_1 x12_1).f2.f1) ((rd_T79 x348001_1 x12_1).f2.f2) ((rd_T79 x348001_1 x12_1).f2.f3) bt363.1 bt363.2.1 bt363.2.2.1 bt363.2.2.2).bind fun t367 => (impl_Bridge_decide.j1 k1 t348 x12_1 (l0_1.length : Int) x12_1 t367 x348000_1 x348001_1 true true ((rd_T79 x348001_1 x12_1).f2.f0) ((rd_T79 x348001_1 x12_1).f2.f1) ((rd_T79 x348001_1 x12_1).f2.f2) ((rd_T79 x348001_1 x12_1).f2.f3) ((rd_T79 x348001_1 x12_1).f3) ((rd_T79 x348001_1 x12_1).f4) ((rd_T79 x348001_1 x12_1).f5) ((rd_T79 x348001_1 x12_1).f6) ((rd_T79 x348001_1 x12_1).f7)))) = some r := by rw [if_pos rfl] at H; exact H
    clear H
    have H := H1
    clear H1
    replace H := Option.bind_eq_some_iff.mp H
    obtain ⟨⟨t363, t364, t365, t366⟩, A310, H⟩ := H
    replace H : ((impl_Better.f k1 ((rd_T79 x348001_1 x12_1).f2.f0) ((rd_T79 x348001_1 x12_1).f2.f1) ((rd_T79 x348001_1 x12_1).f2.f2) ((rd_T79 x348001_1 x12_1).f2.f3) t363 t364 t365 t366).bind fun t367 => (impl_Bridge_decide.j1 k1 t348 x12_1 (l0_1.length : Int) x12_1 t367 x348000_1 x348001_1 true true ((rd_T79 x348001_1 x12_1).f2.f0) ((rd_T79 x348001_1 x12_1).f2.f1) ((rd_T79 x348001_1 x12_1).f2.f2) ((rd_T79 x348001_1 x12_1).f2.f3) ((rd_T79 x348001_1 x12_1).f3) ((rd_T79 x348001_1 x12_1).f4) ((rd_T79 x348001_1 x12_1).f5) ((rd_T79 x348001_1 x12_1).f6) ((rd_T79 x348001_1 x12_1).f7))) = some r := H
    have A31 := aM A310
    clear A310
    replace H := Option.bind_eq_some_iff.mp H
    obtain ⟨t367, A320, H⟩ := H
    replace H : (impl_Bridge_decide.j1 k1 t348 x12_1 (l0_1.length : Int) x12_1 t367 x348000_1 x348001_1 true true ((rd_T79 x348001_1 x12_1).f2.f0) ((rd_T79 x348001_1 x12_1).f2.f1) ((rd_T79 x348001_1 x12_1).f2.f2) ((rd_T79 x348001_1 x12_1).f2.f3) ((rd_T79 x348001_1 x12_1).f3) ((rd_T79 x348001_1 x12_1).f4) ((rd_T79 x348001_1 x12_1).f5) ((rd_T79 x348001_1 x12_1).f6) ((rd_T79 x348001_1 x12_1).f7)) = some r := H
    have A32 := aM A320
    clear A320
    have H' := aM H
    clear H
    try go_wp2
    refine nW (fun W => Aside0 (Kd.R k79 79 W w0.heap.size (fun k_ => (P0_1_ k_ ∨ w.heap.size ≤ k_) ∧ k_ ≠ gb350) (.slice (some ad349) x348001_1.length co3) x348001_1) ∧ Aside0 (W.heap[gb]? = some (.cells #[.int .i64 x348000_1, .slice (some ad349) x348001_1.length co3] 28 (0, 0))) ∧ Aside0 (W.heap[gb350]? = some (.cells #[.bool true, .bool true, .int .i64 ((rd_T79 x348001_1 x12_1).f2.f0), .int .i64 ((rd_T79 x348001_1 x12_1).f2.f1), .int .i64 ((rd_T79 x348001_1 x12_1).f2.f2), .int .i64 ((rd_T79 x348001_1 x12_1).f2.f3), .int .i64 ((rd_T79 x348001_1 x12_1).f3), .int .i64 ((rd_T79 x348001_1 x12_1).f4), .int .i64 ((rd_T79 x348001_1 x12_1).f5), .int .i64 ((rd_T79 x348001_1 x12_1).f6), .bool ((rd_T79 x348001_1 x12_1).f7)] 79 (0, 0))) ∧ Aside0 (Kept w W (fun k_ => P0_1_ k_)) ∧ Aside0 (Below w0.heap.size w0 W)) ⟨⟨kr (Kd.R_mono (kF (p := ⟨gb350, 10, none⟩) (kF (p := ⟨gb350, 9, none⟩) (kF (p := ⟨gb350, 8, none⟩) (kF (p := ⟨gb350, 7, none⟩) (kF (p := ⟨gb350, 6, none⟩) (kF (p := ⟨gb350, 5, none⟩) (kF (p := ⟨gb350, 4, none⟩) (kF (p := ⟨gb350, 3, none⟩) (kF (p := ⟨gb350, 2, none⟩) (kF (p := ⟨gb350, 1, none⟩) (kF (p := ⟨gb350, 0, none⟩) (Kd.R_mono HO_348001.out (fun k_ hk => (⟨hk, hk.2⟩ : _ ∧ k_ ≠ gb350))) (fun _ hk => hk.2) (.bool true)) (fun _ hk => hk.2) (.bool (true))) (fun _ hk => hk.2) (.int .i64 ((rd_T79 x348001_1 x12_1).f2.f0))) (fun _ hk => hk.2) (.int .i64 ((rd_T79 x348001_1 x12_1).f2.f1))) (fun _ hk => hk.2) (.int .i64 ((rd_T79 x348001_1 x12_1).f2.f2))) (fun _ hk => hk.2) (.int .i64 ((rd_T79 x348001_1 x12_1).f2.f3))) (fun _ hk => hk.2) (.int .i64 ((rd_T79 x348001_1 x12_1).f3))) (fun _ hk => hk.2) (.int .i64 ((rd_T79 x348001_1 x12_1).f4))) (fun _ hk => hk.2) (.int .i64 ((rd_T79 x348001_1 x12_1).f5))) (fun _ hk => hk.2) (.int .i64 ((rd_T79 x348001_1 x12_1).f6))) (fun _ hk => hk.2) (.bool ((rd_T79 x348001_1 x12_1).f7))) (fun _ hk => ⟨hk.1.1, hk.1.2⟩))⟩, ⟨fm BK347.out⟩, ⟨pA11 (fm BK350.out)⟩, ⟨kk HK.out⟩, ⟨bl HB.out⟩⟩ ?_
    intro w33 nn_
    replace HO_348001 := nn_.1
    replace BK347 := nn_.2.1
    replace BK350 := nn_.2.2.1
    replace HK := nn_.2.2.2.1
    replace HB := nn_.2.2.2.2
    clear nn_
    replace HO_348001 := aM (Kd.R_drew HO_348001.out)
    replace BK347 := aM (blk_drew BK347.out)
    replace BK350 := aM (blk_drew BK350.out)
    replace HK := aM (Kept.drew HK.out)
    replace HB := aM (below_drew1 HB.out)
    refine start_ (n := 11) (S := fun w' => cT11 w' gb350 (.bool true) (.bool true) (.int .i64 ((rd_T79 x348001_1 x12_1).f2.f0)) (.int .i64 ((rd_T79 x348001_1 x12_1).f2.f1)) (.int .i64 ((rd_T79 x348001_1 x12_1).f2.f2)) (.int .i64 ((rd_T79 x348001_1 x12_1).f2.f3)) (.int .i64 ((rd_T79 x348001_1 x12_1).f3)) (.int .i64 ((rd_T79 x348001_1 x12_1).f4)) (.int .i64 ((rd_T79 x348001_1 x12_1).f5)) (.int .i64 ((rd_T79 x348001_1 x12_1).f6)) (.bool ((rd_T79 x348001_1 x12_1).f7)) (cS2 w' gb (.int .i64 x348000_1) (.slice (some ad349) x348001_1.length co3))) (ds := []) (dn 11 0) (by kernel_rfl) rfl rfl ⟨cI BK350.out 0, cI BK350.out 1, cI BK350.out 2, cI BK350.out 3, cI BK350.out 4, cI BK350.out 5, cI BK350.out 6, cI BK350.out 7, cI BK350.out 8, cI BK350.out 9, cI BK350.out 10, cI BK347.out 0, cI BK347.out 1⟩ (fun hHeld => ?_); refine with_tabW impl_Bridge_decide.tab8 impl_Bridge_decide.bits8 (fun HT_ HW_ => ?_)
    generalize w33.drew = w34 at HO_348001 BK347 BK350 HK HB hHeld ⊢
    refine nY (N := some 42) HT_ ?_
    refine tY (N := some 43) HT_ HW_ hHeld ?_
    refine nY (N := some 44) HT_ ?_
    refine nY (N := some 45) HT_ ?_
    refine pY (i := 6) (N := some 48) #[Y,Y,Y,Y,U,U,Y,U,U,U,U] HT_ ?_
    refine aY (i := 4) (N := some 46) #[Y,Y,Y,Y,Y,U,Y,U,U,U,U] HT_ HW_ hHeld ?_
    refine aY (i := 5) (N := some 47) #[Y,Y,Y,Y,Y,Y,Y,U,U,U,U] HT_ HW_ hHeld ?_
    refine one_ (i := 7) (N := some 49) #[Y,Y,Y,Y,Y,Y,Y,Y,U,U,U] rfl rfl (one_of HT_.out (by kernel_rfl)) (by decide) (fun K hK => ?_)
    refine goes_ Try.func120 (by kernel_rfl) rfl #[.pointer (some ⟨gb, 0, none⟩), .int .i64 x12_1] (by rfl) rfl rfl xR ?_
    with_reducible refine (impl_Bridge_own.calls (gb := gb) (hBK := (bk BK347.out)) k1 x348000_1 _ _ x348001_1 x12_1 t363 t364 t365 t366 _ ?side1 ?side2 A31.out).mono ?_
    (case side1 => repeat (first | exact (Kd.R_reads' HO_348001.out).2.2 | (with_reducible refine Kd.C_alloc ?_ _) | (with_reducible refine Kd.C_drewN ?_ _) | (with_reducible refine Kd.C_drew ?_)))
    (case side2 => exact (Kd.R_reads' HO_348001.out).2.1)
    rintro e w35 ⟨rfl, hb⟩
    refine ⟨_, rfl, ?_⟩
    replace HO_348001 := aM (kB (kr HO_348001.out) hb)
    replace BK347 := aM (bB (bk BK347.out) hb)
    replace BK350 := aM (bB (bk BK350.out) hb)
    replace HK := aM (Kept.below (S := (fun k_ => P0_1_ k_)) (kk HK.out) hb)
    replace HB := aM (bS (bl HB.out) hb)
    (try clear hb)
    (try clear hb2)
    (try clear hk)
    (try clear hi)
    refine hK.out _ _ ⟨cI BK350.out 0, cI BK350.out 1, cI BK350.out 2, cI BK350.out 3, cI BK350.out 4, cI BK350.out 5, cI BK350.out 6, cI BK350.out 7, cI BK350.out 8, cI BK350.out 9, cI BK350.out 10, cI BK347.out 0, cI BK347.out 1⟩ (fun hHeld => ?_)
    clear hK K
    refine norm_ (a' := ?_) ?_ ?_
    rotate_left
    ·show Act.put _ (some 49) _ = _
     simp only [Act.put, sA, sZ, sS, i64_w, i32_w]
     rfl
    refine one_ (i := 8) (N := some 50) #[Y,Y,Y,Y,Y,Y,Y,Y,Y,U,U] rfl rfl (one_of HT_.out (by kernel_rfl)) (by decide) (fun K hK => ?_)
    refine goes_ Try.func47 (by kernel_rfl) rfl #[.agg #[.int .i64 ((rd_T79 x348001_1 x12_1).f2.f0), .int .i64 ((rd_T79 x348001_1 x12_1).f2.f1), .int .i64 ((rd_T79 x348001_1 x12_1).f2.f2), .int .i64 ((rd_T79 x348001_1 x12_1).f2.f3)], .agg #[.int .i64 t363, .int .i64 t364, .int .i64 t365, .int .i64 t366]] (by rfl) rfl rfl xR ?_
    with_reducible refine (impl_Better.calls k1 ((rd_T79 x348001_1 x12_1).f2.f0) ((rd_T79 x348001_1 x12_1).f2.f1) ((rd_T79 x348001_1 x12_1).f2.f2) ((rd_T79 x348001_1 x12_1).f2.f3) t363 t364 t365 t366 t367 _ A32.out).mono ?_
    rintro e w36 ⟨rfl, hb⟩
    refine ⟨_, rfl, ?_⟩
    replace HO_348001 := aM (kB (kr HO_348001.out) hb)
    replace BK347 := aM (bB (bk BK347.out) hb)
    replace BK350 := aM (bB (bk BK350.out) hb)
    replace HK := aM (Kept.below (S := (fun k_ => P0_1_ k_)) (kk HK.out) hb)
    replace HB := aM (bS (bl HB.out) hb)
    (try clear hb)
    (try clear hb2)
    (try clear hk)
    (try clear hi)
    refine hK.out _ _ ⟨cI BK350.out 0, cI BK350.out 1, cI BK350.out 2, cI BK350.out 3, cI BK350.out 4, cI BK350.out 5, cI BK350.out 6, cI BK350.out 7, cI BK350.out 8, cI BK350.out 9, cI BK350.out 10, cI BK347.out 0, cI BK347.out 1⟩ (fun hHeld => ?_)
    clear hK K
    refine norm_ (a' := ?_) ?_ ?_
    rotate_left
    ·show Act.put _ (some 50) _ = _
     simp only [Act.put, sA, sZ, sS, i64_w, i32_w]
     rfl
    refine pY (i := 9) (N := some 51) #[Y,Y,Y,Y,Y,Y,Y,Y,Y,Y,U] HT_ ?_
    refine pY (i := 10) (N := some 41) #[Y,Y,Y,Y,Y,Y,Y,Y,Y,Y,Y] HT_ ?_
    refine done_ (done_of HT_.out (by kernel_rfl)) ?_
    try go_wp2
    go_meet
    case rel => (try rw [← Nbq11.out]); (try rw [← Nbq29.out]); exact ⟨_, (t367), (x348000_1), xE, H', ⟨by have := HK1.out; first | omega | exact Nat.le_refl _⟩, ⟨by (try simp only [hl348001_1]); (with_reducible repeat (first | apply Kd.R_alloc | apply Kd.R_drewN | apply Kd.R_drew)); exact HO_348001.out⟩, ⟨by (try simp only [hl348001_1]); (with_reducible repeat (first | refine blk_drewN ?_ _ | refine blk_drew ?_ | refine blk_alloc ?_ _)); exact BK347.out⟩, ⟨by (try simp only [hl348001_1]); (with_reducible repeat (first | refine blk_drewN ?_ _ | refine blk_drew ?_ | refine blk_alloc ?_ _)); exact BK350.out⟩, ⟨kk HK.out⟩, ⟨bl HB.out⟩⟩
   case rest =>
    clear HC24
    try clear c1
    try clear p1
    try clear q1
    try clear hx1
    try clear hf1
    try clear c2
    try clear p2
    try clear q2
    try clear c3
    try clear p3
    try clear q3
    try clear hx3
    try clear c4
    try clear p6
    try clear c7
    try clear c8
    try clear c8b0
    try clear c9
    try clear c9b0
    try clear c10
    try clear c10b0
    try clear q11
    try clear c12
    try clear c13
    try clear c13b0
    try clear c13b1
    try clear c14
    try clear c15
    try clear p15
    try clear q15
    try clear hx15
    try clear hf15
    try clear c18
    try clear c23
    try clear c27
    try clear q29
    try clear c30
    try clear p34
    try clear q34
    try clear hx34
    try clear hcz16
    try clear hcz16_1
    try clear hcz19
    try clear hcz25
    try clear hcz25_1
    try clear hcz28
    try clear hcz5
    try clear hcz5_1
    try clear hcz7
    try clear hfz16_0
    try clear hfz16_1
    try clear hfz25_0
    try clear hfz25_1
    try clear hfz5_0
    try clear hfz5_1
    try clear hx15_0
    try clear hx15_1
    try clear hx15_10
    try clear hx15_2
    try clear hx15_3
    try clear hx15_4
    try clear hx15_5
    try clear hx15_6
    try clear hx15_7
    try clear hx15_8
    try clear hx15_9
    try clear hx349_0
    try clear hx349_1
    try clear hx349_10
    try clear hx349_2
    try clear hx349_3
    try clear hx349_4
    try clear hx349_5
    try clear hx349_6
    try clear hx349_7
    try clear hx349_8
    try clear hx349_9
    try clear p15
    try clear p2
    try clear p349
    try clear q15
    try clear q349
    obtain ⟨kq, x41_23, x348000_23, rfl, HA, HJ23, HO_348001, BK347, BK350, HK, HB⟩ := hcut
    cases kq with
    | zero => exact absurd HA.out (by simp [impl_Bridge_decide.j1])
    | succ kj23 =>
     have H := HA.out
     clear HA
     simp only [impl_Bridge_decide.j1] at H
     by_cases c39 : x41_23 = true
     case neg =>
      replace c39 := Bool.eq_false_iff.mpr c39
      subst c39
      have H1 : ((impl_Turn.f kj23 true ((rd_T79 x348001_1 x12_1).f1) ((rd_T79 x348001_1 x12_1).f2.f0) ((rd_T79 x348001_1 x12_1).f2.f1) ((rd_T79 x348001_1 x12_1).f2.f2) ((rd_T79 x348001_1 x12_1).f2.f3) ((rd_T79 x348001_1 x12_1).f3) ((rd_T79 x348001_1 x12_1).f4) ((rd_T79 x348001_1 x12_1).f5) ((rd_T79 x348001_1 x12_1).f6) ((rd_T79 x348001_1 x12_1).f7) 2).bind fun bt380 => (if 0 ≤ x12_1 then (if x12_1 < (x348001_1.length : Int) then (impl_Bridge_decide.l0 kj23 t348 (l0_1.length : Int) (wrap64 (x12_1 + 1)) x348000_23 (x348001_1.set (x12_1 : Int).toNat (⟨bt380.1, bt380.2.1, (⟨bt380.2.2.1, bt380.2.2.2.1, bt380.2.2.2.2.1, bt380.2.2.2.2.2.1⟩ : S73), bt380.2.2.2.2.2.2.1, bt380.2.2.2.2.2.2.2.1, bt380.2.2.2.2.2.2.2.2.1, bt380.2.2.2.2.2.2.2.2.2.1, bt380.2.2.2.2.2.2.2.2.2.2⟩ : S79))) else (none)) else (none))) = some r := by rw [if_neg (show ¬ (false = true) by decide)] at H; exact H
      clear H
      have H := H1
      clear H1
      replace H := Option.bind_eq_some_iff.mp H
      obtain ⟨⟨t380, t381, t382, t383, t384, t385, t386, t387, t388, t389, t390⟩, A470, H⟩ := H
      replace H : (if 0 ≤ x12_1 then (if x12_1 < (x348001_1.length : Int) then (impl_Bridge_decide.l0 kj23 t348 (l0_1.length : Int) (wrap64 (x12_1 + 1)) x348000_23 (x348001_1.set (x12_1 : Int).toNat (⟨t380, t381, (⟨t382, t383, t384, t385⟩ : S73), t386, t387, t388, t389, t390⟩ : S79))) else (none)) else (none)) = some r := H
      have A47 := aM A470
      clear A470
      by_cases c48 : 0 ≤ x12_1
      case neg =>
       rw [if_neg c48] at H
       exact absurd H (by simp)
      rw [if_pos c48] at H
      have c48b0 : decide (0 ≤ x12_1) = true := decide_eq_true c48
      clear c48
      by_cases c49 : x12_1 < (x348001_1.length : Int)
      case neg =>
       rw [if_neg c49] at H
       exact absurd H (by simp)
      rw [if_pos c49] at H
      have c49b0 : decide (x12_1 < (x348001_1.length : Int)) = true := decide_eq_true c49
      clear c49
      obtain ⟨y391, hy391⟩ : ∃ y_ : List (S79), y_ = (x348001_1.set (x12_1 : Int).toNat (⟨t380, t381, (⟨t382, t383, t384, t385⟩ : S73), t386, t387, t388, t389, t390⟩ : S79)) := ⟨_, rfl⟩
      replace H : (impl_Bridge_decide.l0 kj23 t348 (l0_1.length : Int) (wrap64 (x12_1 + 1)) x348000_23 y391) = some r := by first | (rw [hy391]; with_reducible exact H) | (have H2_ := (Option.bind_some _ _).symm.trans H; rw [hy391]; with_reducible exact H2_) | (have H2_ := (Option.bind_some _ _).symm.trans H; with_reducible exact H2_) | with_reducible exact H | (rw [hy391]; exact H) | exact H
      have Ny391 := aM hy391
      clear hy391
      have H' := aM H
      clear H
      try go_wp2
      replace HO_348001 := aM (Kd.R_drew HO_348001.out)
      replace BK347 := aM (blk_drew BK347.out)
      replace BK350 := aM (blk_drew BK350.out)
      replace HK := aM (Kept.drew HK.out)
      replace HB := aM (below_drew1 HB.out)
      refine start_ (n := 9) (S := fun w' => cT2 w' gb (.int .i64 x348000_23) (.slice (some ad349) x348001_1.length co3) (cS11 w' gb350 (.bool true) (.bool ((rd_T79 x348001_1 x12_1).f1)) (.int .i64 ((rd_T79 x348001_1 x12_1).f2.f0)) (.int .i64 ((rd_T79 x348001_1 x12_1).f2.f1)) (.int .i64 ((rd_T79 x348001_1 x12_1).f2.f2)) (.int .i64 ((rd_T79 x348001_1 x12_1).f2.f3)) (.int .i64 ((rd_T79 x348001_1 x12_1).f3)) (.int .i64 ((rd_T79 x348001_1 x12_1).f4)) (.int .i64 ((rd_T79 x348001_1 x12_1).f5)) (.int .i64 ((rd_T79 x348001_1 x12_1).f6)) (.bool ((rd_T79 x348001_1 x12_1).f7)))) (ds := [8]) (dn 9 0) (by kernel_rfl) rfl rfl ⟨cI BK347.out 0, cI BK347.out 1, cI BK350.out 0, cI BK350.out 1, cI BK350.out 2, cI BK350.out 3, cI BK350.out 4, cI BK350.out 5, cI BK350.out 6, cI BK350.out 7, cI BK350.out 8, cI BK350.out 9, cI BK350.out 10⟩ (fun hHeld => ?_); refine with_tabW impl_Bridge_decide.tab4 impl_Bridge_decide.bits4 (fun HT_ HW_ => ?_)
      generalize wc.drew = w51 at HO_348001 BK347 BK350 HK HB hHeld ⊢
      refine nY (N := some 17) HT_ ?_
      refine nY (N := some 18) HT_ ?_
      refine nY (N := some 19) HT_ ?_
      refine pY (i := 4) (N := some 21) #[Y,Y,Y,U,Y,U,U,U,U] HT_ ?_
      refine aY (i := 3) (N := some 20) #[Y,Y,Y,Y,Y,U,U,U,U] HT_ HW_ hHeld ?_
      refine aY (i := 5) (N := some 22) #[Y,Y,Y,Y,Y,Y,U,U,U] HT_ HW_ hHeld ?_
      refine one_ (i := 6) (N := some 23) #[Y,Y,Y,Y,Y,Y,Y,U,U] rfl rfl (one_of HT_.out (by kernel_rfl)) (by decide) (fun K hK => ?_)
      refine goes_ Try.func145 (by kernel_rfl) rfl #[.agg #[.bool true, .bool ((rd_T79 x348001_1 x12_1).f1), .int .i64 ((rd_T79 x348001_1 x12_1).f2.f0), .int .i64 ((rd_T79 x348001_1 x12_1).f2.f1), .int .i64 ((rd_T79 x348001_1 x12_1).f2.f2), .int .i64 ((rd_T79 x348001_1 x12_1).f2.f3), .int .i64 ((rd_T79 x348001_1 x12_1).f3), .int .i64 ((rd_T79 x348001_1 x12_1).f4), .int .i64 ((rd_T79 x348001_1 x12_1).f5), .int .i64 ((rd_T79 x348001_1 x12_1).f6), .bool ((rd_T79 x348001_1 x12_1).f7)], .int .i64 2] (by rfl) rfl rfl xR ?_
      with_reducible refine (impl_Turn.calls kj23 true ((rd_T79 x348001_1 x12_1).f1) ((rd_T79 x348001_1 x12_1).f2.f0) ((rd_T79 x348001_1 x12_1).f2.f1) ((rd_T79 x348001_1 x12_1).f2.f2) ((rd_T79 x348001_1 x12_1).f2.f3) ((rd_T79 x348001_1 x12_1).f3) ((rd_T79 x348001_1 x12_1).f4) ((rd_T79 x348001_1 x12_1).f5) ((rd_T79 x348001_1 x12_1).f6) ((rd_T79 x348001_1 x12_1).f7) 2 t380 t381 t382 t383 t384 t385 t386 t387 t388 t389 t390 _ A47.out).mono ?_
      rintro e w52 ⟨rfl, hb⟩
      refine ⟨_, rfl, ?_⟩
      replace HO_348001 := aM (kB (kr HO_348001.out) hb)
      replace BK347 := aM (bB (bk BK347.out) hb)
      replace BK350 := aM (bB (bk BK350.out) hb)
      replace HK := aM (Kept.below (S := (fun k_ => P0_1_ k_)) (kk HK.out) hb)
      replace HB := aM (bS (bl HB.out) hb)
      (try clear hb)
      (try clear hb2)
      (try clear hk)
      (try clear hi)
      have p50 : 0 ≤ (x12_1 : Int) := of_decide_eq_true (by first | (with_reducible assumption) | assumption)
      have q50 : (x12_1 : Int) < ((x348001_1.length : Int) : Int) := of_decide_eq_true (by first | (with_reducible assumption) | assumption)
      obtain ⟨go50, co50, eo50, gb50, gl50, cl50, HG50⟩ := Kd.R_form HO_348001.out (by omega)
      (first | cases eo50 | (injection eo50 with ea_ en_ ec_; (first | subst ea_ | (injection ea_ with ea_; subst ea_)); subst ec_; clear en_))
      have GB50 := aM gb50
      have GG50 := aM HG50
      clear gb50 gl50 HG50
      have HMgo50 := aM (show (P0_1_ go50 ∨ w.heap.size ≤ go50) from (HO_348001.out.1 _ rfl).1)
      obtain ⟨ce50, hcl50, hM50, hcc50, hfr50⟩ := Kd.R_elem HO_348001.out z79 (x12_1 : Int) p50 q50
      obtain rfl := k79_openM hM50
      have hx50_0 : World.cell? _ ⟨go50, (x12_1 : Int).toNat * 11, none⟩ = some (.bool ((rd_T79 x348001_1 x12_1).f0)) := hcc50 0 _ rfl
      have hx50_1 : World.cell? _ ⟨go50, (x12_1 : Int).toNat * 11 + 1, none⟩ = some (.bool ((rd_T79 x348001_1 x12_1).f1)) := hcc50 1 _ rfl
      have hx50_2 : World.cell? _ ⟨go50, (x12_1 : Int).toNat * 11 + 2, none⟩ = some (.int .i64 ((rd_T79 x348001_1 x12_1).f2.f0)) := hcc50 2 _ rfl
      have hx50_3 : World.cell? _ ⟨go50, (x12_1 : Int).toNat * 11 + 3, none⟩ = some (.int .i64 ((rd_T79 x348001_1 x12_1).f2.f1)) := hcc50 3 _ rfl
      have hx50_4 : World.cell? _ ⟨go50, (x12_1 : Int).toNat * 11 + 4, none⟩ = some (.int .i64 ((rd_T79 x348001_1 x12_1).f2.f2)) := hcc50 4 _ rfl
      have hx50_5 : World.cell? _ ⟨go50, (x12_1 : Int).toNat * 11 + 5, none⟩ = some (.int .i64 ((rd_T79 x348001_1 x12_1).f2.f3)) := hcc50 5 _ rfl
      have hx50_6 : World.cell? _ ⟨go50, (x12_1 : Int).toNat * 11 + 6, none⟩ = some (.int .i64 ((rd_T79 x348001_1 x12_1).f3)) := hcc50 6 _ rfl
      have hx50_7 : World.cell? _ ⟨go50, (x12_1 : Int).toNat * 11 + 7, none⟩ = some (.int .i64 ((rd_T79 x348001_1 x12_1).f4)) := hcc50 7 _ rfl
      have hx50_8 : World.cell? _ ⟨go50, (x12_1 : Int).toNat * 11 + 8, none⟩ = some (.int .i64 ((rd_T79 x348001_1 x12_1).f5)) := hcc50 8 _ rfl
      have hx50_9 : World.cell? _ ⟨go50, (x12_1 : Int).toNat * 11 + 9, none⟩ = some (.int .i64 ((rd_T79 x348001_1 x12_1).f6)) := hcc50 9 _ rfl
      have hx50_10 : World.cell? _ ⟨go50, (x12_1 : Int).toNat * 11 + 10, none⟩ = some (.bool ((rd_T79 x348001_1 x12_1).f7)) := hcc50 10 _ rfl
      have hf50_0 : World.frozen? _ ⟨go50, (x12_1 : Int).toNat * 11, none⟩ = false := hfr50 0
      have hf50_1 : World.frozen? _ ⟨go50, (x12_1 : Int).toNat * 11 + 1, none⟩ = false := hfr50 1
      have hf50_2 : World.frozen? _ ⟨go50, (x12_1 : Int).toNat * 11 + 2, none⟩ = false := hfr50 2
      have hf50_3 : World.frozen? _ ⟨go50, (x12_1 : Int).toNat * 11 + 3, none⟩ = false := hfr50 3
      have hf50_4 : World.frozen? _ ⟨go50, (x12_1 : Int).toNat * 11 + 4, none⟩ = false := hfr50 4
      have hf50_5 : World.frozen? _ ⟨go50, (x12_1 : Int).toNat * 11 + 5, none⟩ = false := hfr50 5
      have hf50_6 : World.frozen? _ ⟨go50, (x12_1 : Int).toNat * 11 + 6, none⟩ = false := hfr50 6
      have hf50_7 : World.frozen? _ ⟨go50, (x12_1 : Int).toNat * 11 + 7, none⟩ = false := hfr50 7
      have hf50_8 : World.frozen? _ ⟨go50, (x12_1 : Int).toNat * 11 + 8, none⟩ = false := hfr50 8
      have hf50_9 : World.frozen? _ ⟨go50, (x12_1 : Int).toNat * 11 + 9, none⟩ = false := hfr50 9
      have hf50_10 : World.frozen? _ ⟨go50, (x12_1 : Int).toNat * 11 + 10, none⟩ = false := hfr50 10
      clear hcl50 hcc50 hfr50 hM50
      replace p50 := eq_true p50
      replace q50 := eq_true q50
      obtain ⟨ce53, hcl53, hM53, hcc53, hfr53⟩ := Kd.R_elem HO_348001.out z79 (x12_1 : Int) (of_decide_eq_true (by first | (with_reducible assumption) | assumption)) (by have h_ : (x12_1 : Int) < ((x348001_1.length : Int) : Int) := of_decide_eq_true (by first | (with_reducible assumption) | assumption); first | exact h_ | (have e_ := (Kd.R_reads' HO_348001.out).1; omega) | simpa using h_)
      obtain rfl := k79_openM hM53
      have HP53 := (Kd.R_seg HO_348001.out (x12_1 : Int) (of_decide_eq_true (by first | (with_reducible assumption) | assumption)) (by have h_ : (x12_1 : Int) < ((x348001_1.length : Int) : Int) := of_decide_eq_true (by first | (with_reducible assumption) | assumption); first | exact h_ | (have e_ := (Kd.R_reads' HO_348001.out).1; omega) | simpa using h_) (seg := [.bool t380, .bool t381, .int .i64 t382, .int .i64 t383, .int .i64 t384, .int .i64 t385, .int .i64 t386, .int .i64 t387, .int .i64 t388, .int .i64 t389, .bool t390]) (j := 0) hcl53 hcc53 (show 11 ≤ 11 from by decide) (x' := (⟨t380, t381, (⟨t382, t383, t384, t385⟩ : S73), t386, t387, t388, t389, t390⟩ : S79)) (k79_mkM _ _ _ (⟨t380, t381, (⟨t382, t383, t384, t385⟩ : S73), t386, t387, t388, t389, t390⟩ : S79) ) (fun _ hk => hk)).1
      rw [← Ny391.out] at HP53
      have HQ53 := aM HP53
      clear hcl53 hcc53 hfr53 hM53 HP53
      refine hK.out _ _ ⟨cI BK347.out 0, cI BK347.out 1, cI BK350.out 0, cI BK350.out 1, cI BK350.out 2, cI BK350.out 3, cI BK350.out 4, cI BK350.out 5, cI BK350.out 6, cI BK350.out 7, cI BK350.out 8, cI BK350.out 9, cI BK350.out 10⟩ (fun hHeld => ?_)
      clear hK K
      refine norm_ (a' := ?_) ?_ ?_
      rotate_left
      ·show Act.put _ (some 23) _ = _
       simp only [Act.put, sA, sZ, sS, i64_w, i32_w]
       rfl
      refine pY (i := 7) (N := some 24) #[Y,Y,Y,Y,Y,Y,Y,Y,U] HT_ ?_
      refine last_ (i := 8) (N := none) #[Y,Y,Y,Y,Y,Y,Y,Y,Y] rfl rfl (one_of HT_.out (by kernel_rfl)) (by decide) (fun K hK => ?_)
      refine skip_ (w1 := ?_) (by rfl) rfl ?_ ?_
      rotate_left
      ·go_simp
       rfl
      refine hK.out _ _ ?_
      clear hK K
      refine done_ (done_of HT_.out (by kernel_rfl)) ?_
      try go_wp2
      (try simp only [← hl348001_1])
      go_roundg kj23
      case measure => have := HK1.out; have := HJ23.out; omega
      case rel => (try rw [← Nbq11.out]); (try rw [← Nbq29.out]); exact ⟨(wrap64 (x12_1 + 1)), (x348000_23), (y391), xE, H', ⟨by have := HK1.out; have := HJ23.out; omega⟩, ⟨by (try simp only [hl348001_1]); (with_reducible repeat (first | apply Kd.R_alloc | apply Kd.R_drewN | apply Kd.R_drew)); exact Kd.R_mono HQ53.out (fun _ hk => hk.1)⟩, ⟨by (try simp only [hl348001_1]); (with_reducible repeat (first | refine blk_drewN ?_ _ | refine blk_drew ?_ | refine blk_alloc ?_ _)); refine blk_far ?_ (by have h_ := Kd.R_ne HO_348001.out BK347.out (by decide); intro e_; exact h_ (by rw [e_]; rfl)) _; (with_reducible repeat (first | refine blk_drewN ?_ _ | refine blk_drew ?_ | refine blk_alloc ?_ _)); refine blk_far ?_ (by have h_ := Kd.R_ne HO_348001.out BK347.out (by decide); intro e_; exact h_ (by rw [e_]; rfl)) _; (with_reducible repeat (first | refine blk_drewN ?_ _ | refine blk_drew ?_ | refine blk_alloc ?_ _)); refine blk_far ?_ (by have h_ := Kd.R_ne HO_348001.out BK347.out (by decide); intro e_; exact h_ (by rw [e_]; rfl)) _; (with_reducible repeat (first | refine blk_drewN ?_ _ | refine blk_drew ?_ | refine blk_alloc ?_ _)); refine blk_far ?_ (by have h_ := Kd.R_ne HO_348001.out BK347.out (by decide); intro e_; exact h_ (by rw [e_]; rfl)) _; (with_reducible repeat (first | refine blk_drewN ?_ _ | refine blk_drew ?_ | refine blk_alloc ?_ _)); refine blk_far ?_ (by have h_ := Kd.R_ne HO_348001.out BK347.out (by decide); intro e_; exact h_ (by rw [e_]; rfl)) _; (with_reducible repeat (first | refine blk_drewN ?_ _ | refine blk_drew ?_ | refine blk_alloc ?_ _)); refine blk_far ?_ (by have h_ := Kd.R_ne HO_348001.out BK347.out (by decide); intro e_; exact h_ (by rw [e_]; rfl)) _; (with_reducible repeat (first | refine blk_drewN ?_ _ | refine blk_drew ?_ | refine blk_alloc ?_ _)); refine blk_far ?_ (by have h_ := Kd.R_ne HO_348001.out BK347.out (by decide); intro e_; exact h_ (by rw [e_]; rfl)) _; (with_reducible repeat (first | refine blk_drewN ?_ _ | refine blk_drew ?_ | refine blk_alloc ?_ _)); refine blk_far ?_ (by have h_ := Kd.R_ne HO_348001.out BK347.out (by decide); intro e_; exact h_ (by rw [e_]; rfl)) _; (with_reducible repeat (first | refine blk_drewN ?_ _ | refine blk_drew ?_ | refine blk_alloc ?_ _)); refine blk_far ?_ (by have h_ := Kd.R_ne HO_348001.out BK347.out (by decide); intro e_; exact h_ (by rw [e_]; rfl)) _; (with_reducible repeat (first | refine blk_drewN ?_ _ | refine blk_drew ?_ | refine blk_alloc ?_ _)); refine blk_far ?_ (by have h_ := Kd.R_ne HO_348001.out BK347.out (by decide); intro e_; exact h_ (by rw [e_]; rfl)) _; (with_reducible repeat (first | refine blk_drewN ?_ _ | refine blk_drew ?_ | refine blk_alloc ?_ _)); refine blk_far ?_ (by have h_ := Kd.R_ne HO_348001.out BK347.out (by decide); intro e_; exact h_ (by rw [e_]; rfl)) _; (with_reducible repeat (first | refine blk_drewN ?_ _ | refine blk_drew ?_ | refine blk_alloc ?_ _)); exact BK347.out⟩, ⟨by repeat (first | (with_reducible first | exact HK.out | apply Kept.alloc | apply Kept.drewN | apply Kept.drew | refine Kept.setCell ?_ HMgo50.out _ | refine Kept.setCell ?_ HMgo50.out _ | refine Kept.setCell ?_ HMgo50.out _ | refine Kept.setCell ?_ HMgo50.out _ | refine Kept.setCell ?_ HMgo50.out _ | refine Kept.setCell ?_ HMgo50.out _ | refine Kept.setCell ?_ HMgo50.out _ | refine Kept.setCell ?_ HMgo50.out _ | refine Kept.setCell ?_ HMgo50.out _ | refine Kept.setCell ?_ HMgo50.out _ | refine Kept.setCell ?_ HMgo50.out _ | refine Kept.setCell ?_ (.inr GW347.out) _ | refine Kept.setCell ?_ (.inr GW350.out) _) | exact HK.out)⟩, ⟨by repeat (first | (with_reducible first | exact HB.out | apply below_alloc | apply pw_below_drewN | apply below_drew1 | refine below_set ?_ GB50.out | refine below_set ?_ GB50.out | refine below_set ?_ GB50.out | refine below_set ?_ GB50.out | refine below_set ?_ GB50.out | refine below_set ?_ GB50.out | refine below_set ?_ GB50.out | refine below_set ?_ GB50.out | refine below_set ?_ GB50.out | refine below_set ?_ GB50.out | refine below_set ?_ GB50.out | refine below_set ?_ GE347.out | refine below_set ?_ GE350.out) | exact HB.out)⟩⟩
     subst c39
     have H1 : ((impl_Turn.f kj23 true ((rd_T79 x348001_1 x12_1).f1) ((rd_T79 x348001_1 x12_1).f2.f0) ((rd_T79 x348001_1 x12_1).f2.f1) ((rd_T79 x348001_1 x12_1).f2.f2) ((rd_T79 x348001_1 x12_1).f2.f3) ((rd_T79 x348001_1 x12_1).f3) ((rd_T79 x348001_1 x12_1).f4) ((rd_T79 x348001_1 x12_1).f5) ((rd_T79 x348001_1 x12_1).f6) ((rd_T79 x348001_1 x12_1).f7) 3).bind fun bt368 => (if 0 ≤ x12_1 then (if x12_1 < (x348001_1.length : Int) then (impl_Bridge_decide.l0 kj23 t348 (l0_1.length : Int) (wrap64 (x12_1 + 1)) x348000_23 (x348001_1.set (x12_1 : Int).toNat (⟨bt368.1, bt368.2.1, (⟨bt368.2.2.1, bt368.2.2.2.1, bt368.2.2.2.2.1, bt368.2.2.2.2.2.1⟩ : S73), bt368.2.2.2.2.2.2.1, bt368.2.2.2.2.2.2.2.1, bt368.2.2.2.2.2.2.2.2.1, bt368.2.2.2.2.2.2.2.2.2.1, bt368.2.2.2.2.2.2.2.2.2.2⟩ : S79))) else (none)) else (none))) = some r := by rw [if_pos rfl] at H; exact H
     clear H
     have H := H1
     clear H1
     replace H := Option.bind_eq_some_iff.mp H
     obtain ⟨⟨t368, t369, t370, t371, t372, t373, t374, t375, t376, t377, t378⟩, A400, H⟩ := H
     replace H : (if 0 ≤ x12_1 then (if x12_1 < (x348001_1.length : Int) then (impl_Bridge_decide.l0 kj23 t348 (l0_1.length : Int) (wrap64 (x12_1 + 1)) x348000_23 (x348001_1.set (x12_1 : Int).toNat (⟨t368, t369, (⟨t370, t371, t372, t373⟩ : S73), t374, t375, t376, t377, t378⟩ : S79))) else (none)) else (none)) = some r := H
     have A40 := aM A400
     clear A400
     by_cases c41 : 0 ≤ x12_1
     case neg =>
      rw [if_neg c41] at H
      exact absurd H (by simp)
     rw [if_pos c41] at H
     have c41b0 : decide (0 ≤ x12_1) = true := decide_eq_true c41
     clear c41
     by_cases c42 : x12_1 < (x348001_1.length : Int)
     case neg =>
      rw [if_neg c42] at H
      exact absurd H (by simp)
     rw [if_pos c42] at H
     have c42b0 : decide (x12_1 < (x348001_1.length : Int)) = true := decide_eq_true c42
     clear c42
     obtain ⟨y379, hy379⟩ : ∃ y_ : List (S79), y_ = (x348001_1.set (x12_1 : Int).toNat (⟨t368, t369, (⟨t370, t371, t372, t373⟩ : S73), t374, t375, t376, t377, t378⟩ : S79)) := ⟨_, rfl⟩
     replace H : (impl_Bridge_decide.l0 kj23 t348 (l0_1.length : Int) (wrap64 (x12_1 + 1)) x348000_23 y379) = some r := by first | (rw [hy379]; with_reducible exact H) | (have H2_ := (Option.bind_some _ _).symm.trans H; rw [hy379]; with_reducible exact H2_) | (have H2_ := (Option.bind_some _ _).symm.trans H; with_reducible exact H2_) | with_reducible exact H | (rw [hy379]; exact H) | exact H
     have Ny379 := aM hy379
     clear hy379
     have H' := aM H
     clear H
     try go_wp2
     replace HO_348001 := aM (Kd.R_drew HO_348001.out)
     replace BK347 := aM (blk_drew BK347.out)
     replace BK350 := aM (blk_drew BK350.out)
     replace HK := aM (Kept.drew HK.out)
     replace HB := aM (below_drew1 HB.out)
     refine start_ (n := 9) (S := fun w' => cT2 w' gb (.int .i64 x348000_23) (.slice (some ad349) x348001_1.length co3) (cS11 w' gb350 (.bool true) (.bool ((rd_T79 x348001_1 x12_1).f1)) (.int .i64 ((rd_T79 x348001_1 x12_1).f2.f0)) (.int .i64 ((rd_T79 x348001_1 x12_1).f2.f1)) (.int .i64 ((rd_T79 x348001_1 x12_1).f2.f2)) (.int .i64 ((rd_T79 x348001_1 x12_1).f2.f3)) (.int .i64 ((rd_T79 x348001_1 x12_1).f3)) (.int .i64 ((rd_T79 x348001_1 x12_1).f4)) (.int .i64 ((rd_T79 x348001_1 x12_1).f5)) (.int .i64 ((rd_T79 x348001_1 x12_1).f6)) (.bool ((rd_T79 x348001_1 x12_1).f7)))) (ds := [8]) (dn 9 0) (by kernel_rfl) rfl rfl ⟨cI BK347.out 0, cI BK347.out 1, cI BK350.out 0, cI BK350.out 1, cI BK350.out 2, cI BK350.out 3, cI BK350.out 4, cI BK350.out 5, cI BK350.out 6, cI BK350.out 7, cI BK350.out 8, cI BK350.out 9, cI BK350.out 10⟩ (fun hHeld => ?_); refine with_tabW impl_Bridge_decide.tab9 impl_Bridge_decide.bits9 (fun HT_ HW_ => ?_)
     generalize wc.drew = w44 at HO_348001 BK347 BK350 HK HB hHeld ⊢
     refine nY (N := some 52) HT_ ?_
     refine nY (N := some 53) HT_ ?_
     refine nY (N := some 54) HT_ ?_
     refine pY (i := 4) (N := some 56) #[Y,Y,Y,U,Y,U,U,U,U] HT_ ?_
     refine aY (i := 3) (N := some 55) #[Y,Y,Y,Y,Y,U,U,U,U] HT_ HW_ hHeld ?_
     refine aY (i := 5) (N := some 57) #[Y,Y,Y,Y,Y,Y,U,U,U] HT_ HW_ hHeld ?_
     refine one_ (i := 6) (N := some 58) #[Y,Y,Y,Y,Y,Y,Y,U,U] rfl rfl (one_of HT_.out (by kernel_rfl)) (by decide) (fun K hK => ?_)
     refine goes_ Try.func145 (by kernel_rfl) rfl #[.agg #[.bool true, .bool ((rd_T79 x348001_1 x12_1).f1), .int .i64 ((rd_T79 x348001_1 x12_1).f2.f0), .int .i64 ((rd_T79 x348001_1 x12_1).f2.f1), .int .i64 ((rd_T79 x348001_1 x12_1).f2.f2), .int .i64 ((rd_T79 x348001_1 x12_1).f2.f3), .int .i64 ((rd_T79 x348001_1 x12_1).f3), .int .i64 ((rd_T79 x348001_1 x12_1).f4), .int .i64 ((rd_T79 x348001_1 x12_1).f5), .int .i64 ((rd_T79 x348001_1 x12_1).f6), .bool ((rd_T79 x348001_1 x12_1).f7)], .int .i64 3] (by rfl) rfl rfl xR ?_
     with_reducible refine (impl_Turn.calls kj23 true ((rd_T79 x348001_1 x12_1).f1) ((rd_T79 x348001_1 x12_1).f2.f0) ((rd_T79 x348001_1 x12_1).f2.f1) ((rd_T79 x348001_1 x12_1).f2.f2) ((rd_T79 x348001_1 x12_1).f2.f3) ((rd_T79 x348001_1 x12_1).f3) ((rd_T79 x348001_1 x12_1).f4) ((rd_T79 x348001_1 x12_1).f5) ((rd_T79 x348001_1 x12_1).f6) ((rd_T79 x348001_1 x12_1).f7) 3 t368 t369 t370 t371 t372 t373 t374 t375 t376 t377 t378 _ A40.out).mono ?_
     rintro e w45 ⟨rfl, hb⟩
     refine ⟨_, rfl, ?_⟩
     replace HO_348001 := aM (kB (kr HO_348001.out) hb)
     replace BK347 := aM (bB (bk BK347.out) hb)
     replace BK350 := aM (bB (bk BK350.out) hb)
     replace HK := aM (Kept.below (S := (fun k_ => P0_1_ k_)) (kk HK.out) hb)
     replace HB := aM (bS (bl HB.out) hb)
     (try clear hb)
     (try clear hb2)
     (try clear hk)
     (try clear hi)
     have p43 : 0 ≤ (x12_1 : Int) := of_decide_eq_true (by first | (with_reducible assumption) | assumption)
     have q43 : (x12_1 : Int) < ((x348001_1.length : Int) : Int) := of_decide_eq_true (by first | (with_reducible assumption) | assumption)
     obtain ⟨go43, co43, eo43, gb43, gl43, cl43, HG43⟩ := Kd.R_form HO_348001.out (by omega)
     (first | cases eo43 | (injection eo43 with ea_ en_ ec_; (first | subst ea_ | (injection ea_ with ea_; subst ea_)); subst ec_; clear en_))
     have GB43 := aM gb43
     have GG43 := aM HG43
     clear gb43 gl43 HG43
     have HMgo43 := aM (show (P0_1_ go43 ∨ w.heap.size ≤ go43) from (HO_348001.out.1 _ rfl).1)
     (first | simp only [add_plain] at hx349_0 | skip)
     (first | simp only [add_plain] at hx349_1 | skip)
     (first | simp only [add_plain] at hx349_2 | skip)
     (first | simp only [add_plain] at hx349_3 | skip)
     (first | simp only [add_plain] at hx349_4 | skip)
     (first | simp only [add_plain] at hx349_5 | skip)
     (first | simp only [add_plain] at hx349_6 | skip)
     (first | simp only [add_plain] at hx349_7 | skip)
     (first | simp only [add_plain] at hx349_8 | skip)
     (first | simp only [add_plain] at hx349_9 | skip)
     (first | simp only [add_plain] at hx349_10 | skip)
     obtain ⟨ce43, hcl43, hM43, hcc43, hfr43⟩ := Kd.R_elem HO_348001.out z79 (x12_1 : Int) p43 q43
     obtain rfl := k79_openM hM43
     have hx43_0 : World.cell? _ ⟨go43, (x12_1 : Int).toNat * 11, none⟩ = some (.bool ((rd_T79 x348001_1 x12_1).f0)) := hcc43 0 _ rfl
     have hx43_1 : World.cell? _ ⟨go43, (x12_1 : Int).toNat * 11 + 1, none⟩ = some (.bool ((rd_T79 x348001_1 x12_1).f1)) := hcc43 1 _ rfl
     have hx43_2 : World.cell? _ ⟨go43, (x12_1 : Int).toNat * 11 + 2, none⟩ = some (.int .i64 ((rd_T79 x348001_1 x12_1).f2.f0)) := hcc43 2 _ rfl
     have hx43_3 : World.cell? _ ⟨go43, (x12_1 : Int).toNat * 11 + 3, none⟩ = some (.int .i64 ((rd_T79 x348001_1 x12_1).f2.f1)) := hcc43 3 _ rfl
     have hx43_4 : World.cell? _ ⟨go43, (x12_1 : Int).toNat * 11 + 4, none⟩ = some (.int .i64 ((rd_T79 x348001_1 x12_1).f2.f2)) := hcc43 4 _ rfl
     have hx43_5 : World.cell? _ ⟨go43, (x12_1 : Int).toNat * 11 + 5, none⟩ = some (.int .i64 ((rd_T79 x348001_1 x12_1).f2.f3)) := hcc43 5 _ rfl
     have hx43_6 : World.cell? _ ⟨go43, (x12_1 : Int).toNat * 11 + 6, none⟩ = some (.int .i64 ((rd_T79 x348001_1 x12_1).f3)) := hcc43 6 _ rfl
     have hx43_7 : World.cell? _ ⟨go43, (x12_1 : Int).toNat * 11 + 7, none⟩ = some (.int .i64 ((rd_T79 x348001_1 x12_1).f4)) := hcc43 7 _ rfl
     have hx43_8 : World.cell? _ ⟨go43, (x12_1 : Int).toNat * 11 + 8, none⟩ = some (.int .i64 ((rd_T79 x348001_1 x12_1).f5)) := hcc43 8 _ rfl
     have hx43_9 : World.cell? _ ⟨go43, (x12_1 : Int).toNat * 11 + 9, none⟩ = some (.int .i64 ((rd_T79 x348001_1 x12_1).f6)) := hcc43 9 _ rfl
     have hx43_10 : World.cell? _ ⟨go43, (x12_1 : Int).toNat * 11 + 10, none⟩ = some (.bool ((rd_T79 x348001_1 x12_1).f7)) := hcc43 10 _ rfl
     have hf43_0 : World.frozen? _ ⟨go43, (x12_1 : Int).toNat * 11, none⟩ = false := hfr43 0
     have hf43_1 : World.frozen? _ ⟨go43, (x12_1 : Int).toNat * 11 + 1, none⟩ = false := hfr43 1
     have hf43_2 : World.frozen? _ ⟨go43, (x12_1 : Int).toNat * 11 + 2, none⟩ = false := hfr43 2
     have hf43_3 : World.frozen? _ ⟨go43, (x12_1 : Int).toNat * 11 + 3, none⟩ = false := hfr43 3
     have hf43_4 : World.frozen? _ ⟨go43, (x12_1 : Int).toNat * 11 + 4, none⟩ = false := hfr43 4
     have hf43_5 : World.frozen? _ ⟨go43, (x12_1 : Int).toNat * 11 + 5, none⟩ = false := hfr43 5
     have hf43_6 : World.frozen? _ ⟨go43, (x12_1 : Int).toNat * 11 + 6, none⟩ = false := hfr43 6
     have hf43_7 : World.frozen? _ ⟨go43, (x12_1 : Int).toNat * 11 + 7, none⟩ = false := hfr43 7
     have hf43_8 : World.frozen? _ ⟨go43, (x12_1 : Int).toNat * 11 + 8, none⟩ = false := hfr43 8
     have hf43_9 : World.frozen? _ ⟨go43, (x12_1 : Int).toNat * 11 + 9, none⟩ = false := hfr43 9
     have hf43_10 : World.frozen? _ ⟨go43, (x12_1 : Int).toNat * 11 + 10, none⟩ = false := hfr43 10
     clear hcl43 hcc43 hfr43 hM43
     replace p43 := eq_true p43
     replace q43 := eq_true q43
     obtain ⟨ce46, hcl46, hM46, hcc46, hfr46⟩ := Kd.R_elem HO_348001.out z79 (x12_1 : Int) (of_decide_eq_true (by first | (with_reducible assumption) | assumption)) (by have h_ : (x12_1 : Int) < ((x348001_1.length : Int) : Int) := of_decide_eq_true (by first | (with_reducible assumption) | assumption); first | exact h_ | (have e_ := (Kd.R_reads' HO_348001.out).1; omega) | simpa using h_)
     obtain rfl := k79_openM hM46
     have HP46 := (Kd.R_seg HO_348001.out (x12_1 : Int) (of_decide_eq_true (by first | (with_reducible assumption) | assumption)) (by have h_ : (x12_1 : Int) < ((x348001_1.length : Int) : Int) := of_decide_eq_true (by first | (with_reducible assumption) | assumption); first | exact h_ | (have e_ := (Kd.R_reads' HO_348001.out).1; omega) | simpa using h_) (seg := [.bool t368, .bool t369, .int .i64 t370, .int .i64 t371, .int .i64 t372, .int .i64 t373, .int .i64 t374, .int .i64 t375, .int .i64 t376, .int .i64 t377, .bool t378]) (j := 0) hcl46 hcc46 (show 11 ≤ 11 from by decide) (x' := (⟨t368, t369, (⟨t370, t371, t372, t373⟩ : S73), t374, t375, t376, t377, t378⟩ : S79)) (k79_mkM _ _ _ (⟨t368, t369, (⟨t370, t371, t372, t373⟩ : S73), t374, t375, t376, t377, t378⟩ : S79) ) (fun _ hk => hk)).1
     rw [← Ny379.out] at HP46
     have HQ46 := aM HP46
     clear hcl46 hcc46 hfr46 hM46 HP46
     refine hK.out _ _ ⟨cI BK347.out 0, cI BK347.out 1, cI BK350.out 0, cI BK350.out 1, cI BK350.out 2, cI BK350.out 3, cI BK350.out 4, cI BK350.out 5, cI BK350.out 6, cI BK350.out 7, cI BK350.out 8, cI BK350.out 9, cI BK350.out 10⟩ (fun hHeld => ?_)
     clear hK K
     refine norm_ (a' := ?_) ?_ ?_
     rotate_left
     ·show Act.put _ (some 58) _ = _
      simp only [Act.put, sA, sZ, sS, i64_w, i32_w]
      rfl
     refine pY (i := 7) (N := some 59) #[Y,Y,Y,Y,Y,Y,Y,Y,U] HT_ ?_
     refine last_ (i := 8) (N := none) #[Y,Y,Y,Y,Y,Y,Y,Y,Y] rfl rfl (one_of HT_.out (by kernel_rfl)) (by decide) (fun K hK => ?_)
     refine skip_ (w1 := ?_) (by rfl) rfl ?_ ?_
     rotate_left
     ·go_simp
      rfl
     refine hK.out _ _ ?_
     clear hK K
     refine done_ (done_of HT_.out (by kernel_rfl)) ?_
     try go_wp2
     (try simp only [← hl348001_1])
     go_roundg kj23
     case measure => have := HK1.out; have := HJ23.out; omega
     case rel => (try rw [← Nbq11.out]); (try rw [← Nbq29.out]); exact ⟨(wrap64 (x12_1 + 1)), (x348000_23), (y379), xE, H', ⟨by have := HK1.out; have := HJ23.out; omega⟩, ⟨by (try simp only [hl348001_1]); (with_reducible repeat (first | apply Kd.R_alloc | apply Kd.R_drewN | apply Kd.R_drew)); exact Kd.R_mono HQ46.out (fun _ hk => hk.1)⟩, ⟨by (try simp only [hl348001_1]); (with_reducible repeat (first | refine blk_drewN ?_ _ | refine blk_drew ?_ | refine blk_alloc ?_ _)); refine blk_far ?_ (by have h_ := Kd.R_ne HO_348001.out BK347.out (by decide); intro e_; exact h_ (by rw [e_]; rfl)) _; (with_reducible repeat (first | refine blk_drewN ?_ _ | refine blk_drew ?_ | refine blk_alloc ?_ _)); refine blk_far ?_ (by have h_ := Kd.R_ne HO_348001.out BK347.out (by decide); intro e_; exact h_ (by rw [e_]; rfl)) _; (with_reducible repeat (first | refine blk_drewN ?_ _ | refine blk_drew ?_ | refine blk_alloc ?_ _)); refine blk_far ?_ (by have h_ := Kd.R_ne HO_348001.out BK347.out (by decide); intro e_; exact h_ (by rw [e_]; rfl)) _; (with_reducible repeat (first | refine blk_drewN ?_ _ | refine blk_drew ?_ | refine blk_alloc ?_ _)); refine blk_far ?_ (by have h_ := Kd.R_ne HO_348001.out BK347.out (by decide); intro e_; exact h_ (by rw [e_]; rfl)) _; (with_reducible repeat (first | refine blk_drewN ?_ _ | refine blk_drew ?_ | refine blk_alloc ?_ _)); refine blk_far ?_ (by have h_ := Kd.R_ne HO_348001.out BK347.out (by decide); intro e_; exact h_ (by rw [e_]; rfl)) _; (with_reducible repeat (first | refine blk_drewN ?_ _ | refine blk_drew ?_ | refine blk_alloc ?_ _)); refine blk_far ?_ (by have h_ := Kd.R_ne HO_348001.out BK347.out (by decide); intro e_; exact h_ (by rw [e_]; rfl)) _; (with_reducible repeat (first | refine blk_drewN ?_ _ | refine blk_drew ?_ | refine blk_alloc ?_ _)); refine blk_far ?_ (by have h_ := Kd.R_ne HO_348001.out BK347.out (by decide); intro e_; exact h_ (by rw [e_]; rfl)) _; (with_reducible repeat (first | refine blk_drewN ?_ _ | refine blk_drew ?_ | refine blk_alloc ?_ _)); refine blk_far ?_ (by have h_ := Kd.R_ne HO_348001.out BK347.out (by decide); intro e_; exact h_ (by rw [e_]; rfl)) _; (with_reducible repeat (first | refine blk_drewN ?_ _ | refine blk_drew ?_ | refine blk_alloc ?_ _)); refine blk_far ?_ (by have h_ := Kd.R_ne HO_348001.out BK347.out (by decide); intro e_; exact h_ (by rw [e_]; rfl)) _; (with_reducible repeat (first | refine blk_drewN ?_ _ | refine blk_drew ?_ | refine blk_alloc ?_ _)); refine blk_far ?_ (by have h_ := Kd.R_ne HO_348001.out BK347.out (by decide); intro e_; exact h_ (by rw [e_]; rfl)) _; (with_reducible repeat (first | refine blk_drewN ?_ _ | refine blk_drew ?_ | refine blk_alloc ?_ _)); refine blk_far ?_ (by have h_ := Kd.R_ne HO_348001.out BK347.out (by decide); intro e_; exact h_ (by rw [e_]; rfl)) _; (with_reducible repeat (first | refine blk_drewN ?_ _ | refine blk_drew ?_ | refine blk_alloc ?_ _)); exact BK347.out⟩, ⟨by repeat (first | (with_reducible first | exact HK.out | apply Kept.alloc | apply Kept.drewN | apply Kept.drew | refine Kept.setCell ?_ HMgo43.out _ | refine Kept.setCell ?_ HMgo43.out _ | refine Kept.setCell ?_ HMgo43.out _ | refine Kept.setCell ?_ HMgo43.out _ | refine Kept.setCell ?_ HMgo43.out _ | refine Kept.setCell ?_ HMgo43.out _ | refine Kept.setCell ?_ HMgo43.out _ | refine Kept.setCell ?_ HMgo43.out _ | refine Kept.setCell ?_ HMgo43.out _ | refine Kept.setCell ?_ HMgo43.out _ | refine Kept.setCell ?_ HMgo43.out _ | refine Kept.setCell ?_ (.inr GW347.out) _ | refine Kept.setCell ?_ (.inr GW350.out) _) | exact HK.out)⟩, ⟨by repeat (first | (with_reducible first | exact HB.out | apply below_alloc | apply pw_below_drewN | apply below_drew1 | refine below_set ?_ GB43.out | refine below_set ?_ GB43.out | refine below_set ?_ GB43.out | refine below_set ?_ GB43.out | refine below_set ?_ GB43.out | refine below_set ?_ GB43.out | refine below_set ?_ GB43.out | refine below_set ?_ GB43.out | refine below_set ?_ GB43.out | refine below_set ?_ GB43.out | refine below_set ?_ GB43.out | refine below_set ?_ GE347.out | refine below_set ?_ GE350.out) | exact HB.out)⟩⟩

end Go.Proofs.Ythmijfekdeagpaa.PFnExactDecide
