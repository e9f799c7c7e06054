/- Of the proof of laws.FnExactDecide: a part. No condition beyond what its theorems say. -/
import Derived.Test.YthmijfekdeagpaaVFnExactDecidePx0
import Derived.Test.YthmijfekdeagpaaVFnExactDecidePx4
import Derived.Test.YthmijfekdeagpaaVFnExactDecidePx5
import Derived.Test.YthmijfekdeagpaaVFnExactDecidePx6
import Derived.Test.YthmijfekdeagpaaVFnExactDecidePx7
namespace Go.Proofs.Ythmijfekdeagpaa.PFnExactDecide
open Go.RowKit Go.Proofs.YthmijfekdeagpaaW.PrintWords Go.Proofs.YthmijfekdeagpaaW.PrintLast Go.Proofs.YthmijfekdeagpaaW.PrintMore
attribute [local go_sem] max2_int min2_int max_two min_two max_three min_three max_four min_four   -- for this text's walks alone
set_option linter.unusedVariables false
set_option linter.unusedSimpArgs false

mutual
def spec_Decide.l0 : Nat → Int → Int → Int → List (S79) → Int → List (S79) → Option (Int × (List (S79)))
 | 0, _, _, _, _, _, _ => none
 | k + 1, x4, x6, x200000, x200001, x206000, x206001 => if x6 < (x200001.length : Int) then (if 0 ≤ x6 then (if x6 = x4 then (if (rd_T79 x200001 x6).f0 = true then ((spec_Turn.f k ((rd_T79 x200001 x6).f0) ((rd_T79 x200001 x6).f1) ((rd_T79 x200001 x6).f2.f0) ((rd_T79 x200001 x6).f2.f1) ((rd_T79 x200001 x6).f2.f2) ((rd_T79 x200001 x6).f2.f3) ((rd_T79 x200001 x6).f3) ((rd_T79 x200001 x6).f4) ((rd_T79 x200001 x6).f5) ((rd_T79 x200001 x6).f6) ((rd_T79 x200001 x6).f7) 1).bind fun bt211 => (if x6 < (x206001.length : Int) then (spec_Decide.l0 k x4 (wrap64 (x6 + 1)) x200000 x200001 x206000 (x206001.set (x6 : Int).toNat (⟨bt211.1, bt211.2.1, (⟨bt211.2.2.1, bt211.2.2.2.1, bt211.2.2.2.2.1, bt211.2.2.2.2.2.1⟩ : S73), bt211.2.2.2.2.2.2.1, bt211.2.2.2.2.2.2.2.1, bt211.2.2.2.2.2.2.2.2.1, bt211.2.2.2.2.2.2.2.2.2.1, bt211.2.2.2.2.2.2.2.2.2.2⟩ : S79))) else (none))) else (spec_Decide.l0 k x4 (wrap64 (x6 + 1)) x200000 x200001 x206000 x206001)) else (if (rd_T79 x200001 x6).f1 = true then ((spec_Own.f k x200000 x200001 x6).bind fun bt223 => ((spec_Better.f ((rd_T79 x200001 x6).f2.f0) ((rd_T79 x200001 x6).f2.f1) ((rd_T79 x200001 x6).f2.f2) ((rd_T79 x200001 x6).f2.f3) bt223.1 bt223.2.1 bt223.2.2.1 bt223.2.2.2).bind fun t227 => (spec_Decide.j1 k x4 x6 2 t227 x200000 x200001 x206000 x206001 ((rd_T79 x200001 x6).f0) ((rd_T79 x200001 x6).f1) ((rd_T79 x200001 x6).f2.f0) ((rd_T79 x200001 x6).f2.f1) ((rd_T79 x200001 x6).f2.f2) ((rd_T79 x200001 x6).f2.f3) ((rd_T79 x200001 x6).f3) ((rd_T79 x200001 x6).f4) ((rd_T79 x200001 x6).f5) ((rd_T79 x200001 x6).f6) ((rd_T79 x200001 x6).f7)))) else (spec_Decide.j1 k x4 x6 2 false x200000 x200001 x206000 x206001 ((rd_T79 x200001 x6).f0) ((rd_T79 x200001 x6).f1) ((rd_T79 x200001 x6).f2.f0) ((rd_T79 x200001 x6).f2.f1) ((rd_T79 x200001 x6).f2.f2) ((rd_T79 x200001 x6).f2.f3) ((rd_T79 x200001 x6).f3) ((rd_T79 x200001 x6).f4) ((rd_T79 x200001 x6).f5) ((rd_T79 x200001 x6).f6) ((rd_T79 x200001 x6).f7)))) else (none)) else (some (x206000, x206001))
def spec_Decide.j1 : Nat → Int → Int → Int → Bool → Int → List (S79) → Int → List (S79) → Bool → Bool → Int → Int → Int → Int → Int → Int → Int → Int → Bool → Option (Int × (List (S79)))
 | 0, _, _, _, _, _, _, _, _, _, _, _, _, _, _, _, _, _, _, _ => none
 | k + 1, x4, x6, x8, x44, x200000, x200001, x206000, x206001, x211000, x211001, x211002, x211003, x211004, x211005, x211006, x211007, x211008, x211009, x211010 => if x44 = true then (if x211000 = true then ((spec_Turn.f k x211000 x211001 x211002 x211003 x211004 x211005 x211006 x211007 x211008 x211009 x211010 3).bind fun bt228 => (if 0 ≤ x6 then (if x6 < (x206001.length : Int) then (spec_Decide.l0 k x4 (wrap64 (x6 + 1)) x200000 x200001 x206000 (x206001.set (x6 : Int).toNat (⟨bt228.1, bt228.2.1, (⟨bt228.2.2.1, bt228.2.2.2.1, bt228.2.2.2.2.1, bt228.2.2.2.2.2.1⟩ : S73), bt228.2.2.2.2.2.2.1, bt228.2.2.2.2.2.2.2.1, bt228.2.2.2.2.2.2.2.2.1, bt228.2.2.2.2.2.2.2.2.2.1, bt228.2.2.2.2.2.2.2.2.2.2⟩ : S79))) else (none)) else (none))) else (spec_Decide.l0 k x4 (wrap64 (x6 + 1)) x200000 x200001 x206000 x206001)) else (if x211000 = true then ((spec_Turn.f k x211000 x211001 x211002 x211003 x211004 x211005 x211006 x211007 x211008 x211009 x211010 x8).bind fun bt240 => (if 0 ≤ x6 then (if x6 < (x206001.length : Int) then (spec_Decide.l0 k x4 (wrap64 (x6 + 1)) x200000 x200001 x206000 (x206001.set (x6 : Int).toNat (⟨bt240.1, bt240.2.1, (⟨bt240.2.2.1, bt240.2.2.2.1, bt240.2.2.2.2.1, bt240.2.2.2.2.2.1⟩ : S73), bt240.2.2.2.2.2.2.1, bt240.2.2.2.2.2.2.2.1, bt240.2.2.2.2.2.2.2.2.1, bt240.2.2.2.2.2.2.2.2.2.1, bt240.2.2.2.2.2.2.2.2.2.2⟩ : S79))) else (none)) else (none))) else (spec_Decide.l0 k x4 (wrap64 (x6 + 1)) x200000 x200001 x206000 x206001))
end
def spec_Decide.f (k : Nat) (a0_0 : Int) (l0_1 : List (S79)) : Option (Int × (List (S79))) := (spec_l8Copy.f a0_0 l0_1).bind fun bt201 => ((spec_BridgeOk.f k a0_0 l0_1).bind fun t206 => (if t206 = true then ((spec_RootPort.f k a0_0 l0_1).bind fun bt207 => (spec_Decide.l0 k bt207.1 0 a0_0 l0_1 bt201.1 bt201.2)) else (some (bt201.1, bt201.2))))
theorem spec_Decide.mono_l : ∀ k, (∀ y0 y1 y2 y3 y4 y5, LeO (spec_Decide.l0 k y0 y1 y2 y3 y4 y5) (spec_Decide.l0 (k + 1) y0 y1 y2 y3 y4 y5)) ∧ (∀ y0 y1 y2 y3 y4 y5 y6 y7 y8 y9 y10 y11 y12 y13 y14 y15 y16 y17 y18, LeO (spec_Decide.j1 k y0 y1 y2 y3 y4 y5 y6 y7 y8 y9 y10 y11 y12 y13 y14 y15 y16 y17 y18) (spec_Decide.j1 (k + 1) y0 y1 y2 y3 y4 y5 y6 y7 y8 y9 y10 y11 y12 y13 y14 y15 y16 y17 y18))
 | 0 => ⟨fun _ _ _ _ _ _ r h => by simp [spec_Decide.l0] at h, fun _ _ _ _ _ _ _ _ _ _ _ _ _ _ _ _ _ _ _ r h => by simp [spec_Decide.j1] at h⟩
 | k + 1 => by
  obtain ⟨ih0, ih1⟩ := spec_Decide.mono_l k
  refine ⟨?_, ?_⟩
  ·intro y0 y1 y2 y3 y4 y5
   unfold spec_Decide.l0
   repeat' first
   | (with_reducible exact ih0 _ _ _ _ _ _)
   | (with_reducible exact ih1 _ _ _ _ _ _ _ _ _ _ _ _ _ _ _ _ _ _ _)
   | (with_reducible exact spec_BridgeOk.mono _ _ _)
   | (with_reducible exact spec_Own.mono _ _ _ _)
   | (with_reducible exact spec_RootPort.mono _ _ _)
   | (with_reducible exact spec_Turn.mono _ _ _ _ _ _ _ _ _ _ _ _ _)
   | (with_reducible exact LeO.refl _)
   | (with_reducible exact LeO.none _)
   | (with_reducible refine LeO.ite ?_ ?_)
   | (with_reducible refine LeO.bind ?_ (fun _ => ?_))
   | exact ih0 _ _ _ _ _ _
   | exact ih1 _ _ _ _ _ _ _ _ _ _ _ _ _ _ _ _ _ _ _
   | exact spec_BridgeOk.mono _ _ _
   | exact spec_Own.mono _ _ _ _
   | exact spec_RootPort.mono _ _ _
   | exact spec_Turn.mono _ _ _ _ _ _ _ _ _ _ _ _ _
   | exact LeO.none _
   | refine LeO.ite ?_ ?_
   | refine LeO.bind ?_ (fun _ => ?_)
  ·intro y0 y1 y2 y3 y4 y5 y6 y7 y8 y9 y10 y11 y12 y13 y14 y15 y16 y17 y18
   unfold spec_Decide.j1
   repeat' first
   | (with_reducible exact ih0 _ _ _ _ _ _)
   | (with_reducible exact ih1 _ _ _ _ _ _ _ _ _ _ _ _ _ _ _ _ _ _ _)
   | (with_reducible exact spec_BridgeOk.mono _ _ _)
   | (with_reducible exact spec_Own.mono _ _ _ _)
   | (with_reducible exact spec_RootPort.mono _ _ _)
   | (with_reducible exact spec_Turn.mono _ _ _ _ _ _ _ _ _ _ _ _ _)
   | (with_reducible exact LeO.refl _)
   | (with_reducible exact LeO.none _)
   | (with_reducible refine LeO.ite ?_ ?_)
   | (with_reducible refine LeO.bind ?_ (fun _ => ?_))
   | exact ih0 _ _ _ _ _ _
   | exact ih1 _ _ _ _ _ _ _ _ _ _ _ _ _ _ _ _ _ _ _
   | exact spec_BridgeOk.mono _ _ _
   | exact spec_Own.mono _ _ _ _
   | exact spec_RootPort.mono _ _ _
   | exact spec_Turn.mono _ _ _ _ _ _ _ _ _ _ _ _ _
   | exact LeO.none _
   | refine LeO.ite ?_ ?_
   | refine LeO.bind ?_ (fun _ => ?_)
theorem spec_Decide.mono : ∀ a0 a1 k, LeO (spec_Decide.f k a0 a1) (spec_Decide.f (k + 1) a0 a1) := by
 intro a0 a1 k
 obtain ⟨ih0, ih1⟩ := spec_Decide.mono_l k
 unfold spec_Decide.f
 repeat' first
   | (with_reducible exact ih0 _ _ _ _ _ _)
   | (with_reducible exact ih1 _ _ _ _ _ _ _ _ _ _ _ _ _ _ _ _ _ _ _)
   | (with_reducible exact spec_BridgeOk.mono _ _ _)
   | (with_reducible exact spec_Own.mono _ _ _ _)
   | (with_reducible exact spec_RootPort.mono _ _ _)
   | (with_reducible exact spec_Turn.mono _ _ _ _ _ _ _ _ _ _ _ _ _)
   | (with_reducible exact LeO.refl _)
   | (with_reducible exact LeO.none _)
   | (with_reducible refine LeO.ite ?_ ?_)
   | (with_reducible refine LeO.bind ?_ (fun _ => ?_))
   | exact ih0 _ _ _ _ _ _
   | exact ih1 _ _ _ _ _ _ _ _ _ _ _ _ _ _ _ _ _ _ _
   | exact spec_BridgeOk.mono _ _ _
   | exact spec_Own.mono _ _ _ _
   | exact spec_RootPort.mono _ _ _
   | exact spec_Turn.mono _ _ _ _ _ _ _ _ _ _ _ _ _
   | exact LeO.none _
   | refine LeO.ite ?_ ?_
   | refine LeO.bind ?_ (fun _ => ?_)
def spec_Decide.T12 : Bool × List (List Nat × List Nat) := (true, [([], []), ([0], [0]), ([1], [1]), ([2], [2]), ([3, 2], [2, 3]), ([2], [2]), ([2], [2]), ([5, 6, 2, 2], [2, 5, 6]), ([4, 7, 7, 2], [2, 4, 7]), ([2, 8], [2, 8])])
def spec_Decide.B12 : List Nat := [0, 1, 3, 7, 15, 7, 7, 103, 255, 511]
theorem spec_Decide.tab12 : rtab .any (opsOf Try.f13 12) = spec_Decide.T12 := by kernel_rfl
theorem spec_Decide.bits12 : waitsOk spec_Decide.T12.2 spec_Decide.B12 = true := by kernel_rfl
def spec_Decide.T15 : Bool × List (List Nat × List Nat) := (true, [([], []), ([0], [0]), ([], []), ([], []), ([], []), ([3, 4], [3, 4]), ([1, 2, 0, 1, 2, 3, 4, 5], [1, 2]), ([6, 5, 5, 0, 1, 2, 3, 4, 5], [5, 6])])
def spec_Decide.B15 : List Nat := [0, 1, 0, 0, 0, 24, 63, 127]
theorem spec_Decide.tab15 : rtab .any (opsOf Try.f13 15) = spec_Decide.T15 := by kernel_rfl
theorem spec_Decide.bits15 : waitsOk spec_Decide.T15.2 spec_Decide.B15 = true := by kernel_rfl
set_option maxHeartbeats 60000000 in
set_option maxRecDepth 100000 in
theorem spec_Decide.calls (k : Nat) (a0_0 : Int) (A0_1 : Option Addr) (c0_1 : Nat) (l0_1 : List (S79)) (r1 : Int) (r2 : List (S79)) (w : World) (hr0_1 : Kd.C k79 w A0_1 l0_1.length l0_1) (hc0_1 : l0_1.length ≤ c0_1) (h : spec_Decide.f k a0_0 l0_1 = some (r1, r2)) :
  Calls Try.prog 13 #[.agg #[.int .i64 a0_0, .slice A0_1 l0_1.length c0_1]] w fun e w' => ∃ v1_ : Value, e = .returned (.agg #[.int .i64 r1, v1_]) ∧ Kd.R k79 79 w' w.heap.size (fun _ => True) v1_ r2 ∧ Below w.heap.size w w' := by
 have hu28 := Try.underlying28
 have hu79 := Try.underlying79
 have hu73 := Try.underlying73
 have HR0_1 := aM hr0_1
 have HC0_1 := aM hc0_1
 clear hr0_1 hc0_1
 have HB := aM (Below.refl w.heap.size w)
 have H : ((spec_l8Copy.f a0_0 l0_1).bind fun bt201 => ((spec_BridgeOk.f k a0_0 l0_1).bind fun t206 => (if t206 = true then ((spec_RootPort.f k a0_0 l0_1).bind fun bt207 => (spec_Decide.l0 k bt207.1 0 a0_0 l0_1 bt201.1 bt201.2)) else (some (bt201.1, bt201.2))))) = some (r1, r2) := h
 clear h
 replace H := Option.bind_eq_some_iff.mp H
 obtain ⟨⟨t201, t202⟩, A20, H⟩ := H
 replace H : ((spec_BridgeOk.f k a0_0 l0_1).bind fun t206 => (if t206 = true then ((spec_RootPort.f k a0_0 l0_1).bind fun bt207 => (spec_Decide.l0 k bt207.1 0 a0_0 l0_1 t201 t202)) else (some (t201, t202)))) = some (r1, r2) := H
 have A2 := aM A20
 clear A20
 replace H := Option.bind_eq_some_iff.mp H
 obtain ⟨t206, A30, H⟩ := H
 replace H : (if t206 = true then ((spec_RootPort.f k a0_0 l0_1).bind fun bt207 => (spec_Decide.l0 k bt207.1 0 a0_0 l0_1 t201 t202)) else (some (t201, t202))) = some (r1, r2) := H
 have A3 := aM A30
 clear A30
 by_cases c4 : t206 = true
 case neg =>
  replace c4 := Bool.eq_false_iff.mpr c4
  subst c4
  have H1 : (some (t201, t202)) = some (r1, r2) := by rw [if_neg (show ¬ (false = true) by decide)] at H; exact H
  clear H
  have H := H1
  clear H1
  simp only [Option.some.injEq, Prod.mk.injEq] at H
  obtain ⟨rfl, rfl⟩ := H
  go_enter Try.func13, Try.ntmps13
  go_wp2_with (first | ((with_reducible refine gate_dst (N := 1) rfl ?_); refine box_event ?hg (N := 1) ?hd (cs := #[.int .i64 a0_0, .slice A0_1 l0_1.length c0_1]) (t := 28) ?hr ?_; (case hd => rfl); (case hg => rfl); (case hr => first | (go_simp; done) | (go_simp; rfl) | (obtain ⟨A_, c_, e_⟩ := Kd.R_slice HO204.out; subst e_; (first | (go_simp; done) | (go_simp; rfl))) | (obtain ⟨A_, c_, e_⟩ := Kd.S_slice HO204.out; subst e_; (first | (go_simp; done) | (go_simp; rfl)))); intro gb199 hg w107 hbox hb; have n0_ := aM (bS (bl HB.out) hb); have n1_ := aM (hbox); have n2_ := aM ((by rw [hg]; exact (below_size (bl HB.out)) : w.heap.size ≤ gb199)); have n3_ := aM ((by rw [hg]; exact (below_size (bl HB.out)) : w.heap.size ≤ gb199)); clear HB; have HB := n0_; have BK199 := n1_; have GW199 := n2_; have GE199 := n3_; clear n0_ n1_ n2_ n3_; clear hb hbox hg) | ((with_reducible refine gate_dst (N := 2) rfl ?_); refine box_event ?hg (N := 2) ?hd (cs := #[.int .i64 0, .slice none 0 0]) (t := 28) ?hr ?_; (case hd => rfl); (case hg => rfl); (case hr => first | (go_simp; done) | (go_simp; rfl) | (obtain ⟨A_, c_, e_⟩ := Kd.R_slice HO204.out; subst e_; (first | (go_simp; done) | (go_simp; rfl))) | (obtain ⟨A_, c_, e_⟩ := Kd.S_slice HO204.out; subst e_; (first | (go_simp; done) | (go_simp; rfl)))); intro gb200 hg w108 hbox hb; have n0_ := aM (bB (g := gb199) (o := .cells #[.int .i64 a0_0, .slice A0_1 l0_1.length c0_1] 28 (0, 0)) (bk BK199.out) hb); have n1_ := aM (bS (bl HB.out) hb); have n2_ := aM (hbox); have n3_ := aM ((by rw [hg]; exact (below_size (bl HB.out)) : w.heap.size ≤ gb200)); have n4_ := aM ((by rw [hg]; exact (below_size (bl HB.out)) : w.heap.size ≤ gb200)); have n5_ := aM ((by rw [hg]; exact Nat.ne_of_lt (blk_lt (g := gb199) (o := .cells #[.int .i64 a0_0, .slice A0_1 l0_1.length c0_1] 28 (0, 0)) (bk BK199.out)) : gb199 ≠ gb200)); have n6_ := aM ((by rw [hg]; exact Nat.ne_of_gt (blk_lt (g := gb199) (o := .cells #[.int .i64 a0_0, .slice A0_1 l0_1.length c0_1] 28 (0, 0)) (bk BK199.out)) : gb200 ≠ gb199)); clear BK199 HB; have BK199 := n0_; have HB := n1_; have BK200 := n2_; have GW200 := n3_; have GE200 := n4_; have NB199_200 := n5_; have NB200_199 := n6_; clear n0_ n1_ n2_ n3_ n4_ n5_ n6_; clear hb hbox hg; have hnb109 := NB199_200.out; have hnc109 := NB200_199.out; have hcz110_0 := cI BK199.out 0; have hcz110_1 := cI BK199.out 1; have hfz110_0 := bF BK199.out 0; have hfz110_1 := bF BK199.out 1) | ((with_reducible refine gate_callee (f := 67) rfl ?_); refine goesL_ (some 10) rfl rfl Try.func67 (by kernel_rfl) rfl #[.agg #[.int .i64 a0_0, .slice A0_1 l0_1.length c0_1]] rfl xR ?_; (with_reducible refine (spec_l8Copy.calls a0_0 _ _ l0_1 t201 t202 _ ?side1 ?side2 A2.out).mono ?_); (case side1 => repeat (first | exact (cB HR0_1.out HB.out) | (with_reducible refine Kd.C_alloc ?_ _) | (with_reducible refine Kd.C_drewN ?_ _) | (with_reducible refine Kd.C_drew ?_))); (case side2 => exact HC0_1.out); rintro e w111 ⟨v203, rfl, ho0, hb⟩; refine ⟨_, rfl, ?_⟩; have n0_ := aM (Kd.R_lower ho0 (below_size (bl HB.out))); have n1_ := aM (bB (g := gb199) (o := .cells #[.int .i64 a0_0, .slice A0_1 l0_1.length c0_1] 28 (0, 0)) (bk BK199.out) hb); have n2_ := aM (bB (g := gb200) (o := .cells #[.int .i64 0, .slice none 0 0] 28 (0, 0)) (bk BK200.out) hb); have n3_ := aM (bS (bl HB.out) hb); clear BK199 BK200 HB; have HO204 := n0_; have BK199 := n1_; have BK200 := n2_; have HB := n3_; clear n0_ n1_ n2_ n3_; (try clear hb); (try clear ho0)) | ((with_reducible refine gate_dst (N := 3) rfl ?_); refine box_event ?hg (N := 3) ?hd (cs := #[.int .i64 0, .slice none 0 0]) (t := 28) ?hr ?_; (case hd => rfl); (case hg => rfl); (case hr => first | (go_simp; done) | (go_simp; rfl) | (obtain ⟨A_, c_, e_⟩ := Kd.R_slice HO204.out; subst e_; (first | (go_simp; done) | (go_simp; rfl))) | (obtain ⟨A_, c_, e_⟩ := Kd.S_slice HO204.out; subst e_; (first | (go_simp; done) | (go_simp; rfl)))); intro gb205 hg w112 hbox hb; have n0_ := aM (kB (kr HO204.out) hb); have n1_ := aM (bB (g := gb199) (o := .cells #[.int .i64 a0_0, .slice A0_1 l0_1.length c0_1] 28 (0, 0)) (bk BK199.out) hb); have n2_ := aM (bB (g := gb200) (o := .cells #[.int .i64 0, .slice none 0 0] 28 (0, 0)) (bk BK200.out) hb); have n3_ := aM (bS (bl HB.out) hb); have n4_ := aM (hbox); have n5_ := aM ((by rw [hg]; exact (below_size (bl HB.out)) : w.heap.size ≤ gb205)); have n6_ := aM ((by rw [hg]; exact (below_size (bl HB.out)) : w.heap.size ≤ gb205)); have n7_ := aM ((by rw [hg]; exact Nat.ne_of_lt (blk_lt (g := gb199) (o := .cells #[.int .i64 a0_0, .slice A0_1 l0_1.length c0_1] 28 (0, 0)) (bk BK199.out)) : gb199 ≠ gb205)); have n8_ := aM ((by rw [hg]; exact Nat.ne_of_gt (blk_lt (g := gb199) (o := .cells #[.int .i64 a0_0, .slice A0_1 l0_1.length c0_1] 28 (0, 0)) (bk BK199.out)) : gb205 ≠ gb199)); have n9_ := aM ((by rw [hg]; exact Nat.ne_of_lt (blk_lt (g := gb200) (o := .cells #[.int .i64 0, .slice none 0 0] 28 (0, 0)) (bk BK200.out)) : gb200 ≠ gb205)); have n10_ := aM ((by rw [hg]; exact Nat.ne_of_gt (blk_lt (g := gb200) (o := .cells #[.int .i64 0, .slice none 0 0] 28 (0, 0)) (bk BK200.out)) : gb205 ≠ gb200)); clear HO204 BK199; clear BK200 HB; have HO204 := n0_; have BK199 := n1_; have BK200 := n2_; have HB := n3_; have BK205 := n4_; have GW205 := n5_; have GE205 := n6_; have NB199_205 := n7_; have NB205_199 := n8_; have NB200_205 := n9_; have NB205_200 := n10_; clear n0_ n1_ n2_ n3_ n4_ n5_ n6_ n7_ n8_ n9_ n10_; clear hb hbox hg; have hnb113 := NB205_199.out; have hnc113 := NB199_205.out; have hnb114 := NB205_200.out; have hnc114 := NB200_205.out; have hcz115_0 := cI BK205.out 0; have hcz115_1 := cI BK205.out 1; have hfz115_0 := bF BK205.out 0; have hfz115_1 := bF BK205.out 1; obtain ⟨Ao116, co116, eo116⟩ := Kd.R_slice HO204.out; subst eo116; have hcz117_0 := cI BK199.out 0; have hcz117_1 := cI BK199.out 1; have hfz117_0 := bF BK199.out 0; have hfz117_1 := bF BK199.out 1) | ((with_reducible refine gate_callee (f := 46) rfl ?_); refine goesL_ (some 12) rfl rfl Try.func46 (by kernel_rfl) rfl #[.agg #[.int .i64 a0_0, .slice A0_1 l0_1.length c0_1]] rfl xR ?_; (with_reducible refine (spec_BridgeOk.calls k a0_0 _ _ l0_1 false _ ?side1 ?side2 A3.out).mono ?_); (case side1 => exact cB HR0_1.out (bl HB.out)); (case side2 => exact HC0_1.out); rintro e w118 ⟨rfl, hb⟩; refine ⟨_, rfl, ?_⟩; have n0_ := aM (kB (kr (Kd.R_mono (kF (p := ⟨gb205, 1, none⟩) (kF (p := ⟨gb205, 0, none⟩) (Kd.R_types HO204.out BK205.out (by decide)) (fun _ hk => hk.2) (.int .i64 t201)) (fun _ hk => hk.2) (.slice Ao116 t202.length co116)) (fun _ h_ => h_.1))) hb); have n1_ := aM (bB (g := gb199) (o := .cells #[.int .i64 a0_0, .slice A0_1 l0_1.length c0_1] 28 (0, 0)) (by (with_reducible repeat (first | refine blk_drewN ?_ _ | refine blk_drew ?_ | refine blk_alloc ?_ _)); refine blk_far ?_ NB199_205.out _; (with_reducible repeat (first | refine blk_drewN ?_ _ | refine blk_drew ?_ | refine blk_alloc ?_ _)); refine blk_far ?_ NB199_205.out _; (with_reducible repeat (first | refine blk_drewN ?_ _ | refine blk_drew ?_ | refine blk_alloc ?_ _)); exact BK199.out) hb); have n2_ := aM (bB (g := gb200) (o := .cells #[.int .i64 0, .slice none 0 0] 28 (0, 0)) (by (with_reducible repeat (first | refine blk_drewN ?_ _ | refine blk_drew ?_ | refine blk_alloc ?_ _)); refine blk_far ?_ NB200_205.out _; (with_reducible repeat (first | refine blk_drewN ?_ _ | refine blk_drew ?_ | refine blk_alloc ?_ _)); refine blk_far ?_ NB200_205.out _; (with_reducible repeat (first | refine blk_drewN ?_ _ | refine blk_drew ?_ | refine blk_alloc ?_ _)); exact BK200.out) hb); have n3_ := aM (bB (g := gb205) (o := .cells #[.int .i64 t201, .slice Ao116 t202.length co116] 28 (0, 0)) (by (with_reducible repeat (first | refine blk_drewN ?_ _ | refine blk_drew ?_ | refine blk_alloc ?_ _)); refine blk_put (cs := #[.int .i64 t201, .slice none 0 0]) ?_ 1 _ rfl; (with_reducible repeat (first | refine blk_drewN ?_ _ | refine blk_drew ?_ | refine blk_alloc ?_ _)); refine blk_put (cs := #[.int .i64 0, .slice none 0 0]) ?_ 0 _ rfl; (with_reducible repeat (first | refine blk_drewN ?_ _ | refine blk_drew ?_ | refine blk_alloc ?_ _)); exact BK205.out) hb); have n4_ := aM (bS (bl HB.out) hb); clear HO204 BK199; clear BK200 BK205 HB; have HO204 := n0_; have BK199 := n1_; have BK200 := n2_; have BK205 := n3_; have HB := n4_; clear n0_ n1_ n2_ n3_ n4_; (try clear hb); have hcz119_0 := cI BK205.out 0; have hcz119_1 := cI BK205.out 1; have hfz119_0 := bF BK205.out 0; have hfz119_1 := bF BK205.out 1; have hcz120_0 := cI BK200.out 0; have hcz120_1 := cI BK200.out 1; have hfz120_0 := bF BK200.out 0; have hfz120_1 := bF BK200.out 1))
  refine bodyPost_ret (results_cell_row rfl _ _ gb200 28 #[.int .i64 t201, .slice Ao116 t202.length co116] (0, 0) _ rfl (by (with_reducible repeat (first | refine blk_drewN ?_ _ | refine blk_drew ?_ | refine blk_alloc ?_ _)); refine blk_put (cs := #[.int .i64 t201, .slice none 0 0]) ?_ 1 _ rfl; (with_reducible repeat (first | refine blk_drewN ?_ _ | refine blk_drew ?_ | refine blk_alloc ?_ _)); refine blk_put (cs := #[.int .i64 0, .slice none 0 0]) ?_ 0 _ rfl; (with_reducible repeat (first | refine blk_drewN ?_ _ | refine blk_drew ?_ | refine blk_alloc ?_ _)); exact BK200.out) Try.underlying28 rfl (by kernel_rfl)) rfl ?_
  exact ⟨_, xW, by (with_reducible repeat (first | apply Kd.R_alloc | apply Kd.R_drewN | apply Kd.R_drew)); exact Kd.R_mono (kF (p := ⟨gb200, 1, none⟩) (kF (p := ⟨gb200, 0, none⟩) (Kd.R_types HO204.out BK200.out (by decide)) (fun _ hk => hk.2) (.int .i64 t201)) (fun _ hk => hk.2) (.slice Ao116 t202.length co116)) (fun _ hk => trivial), bl HB.out⟩
 subst c4
 have H1 : ((spec_RootPort.f k a0_0 l0_1).bind fun bt207 => (spec_Decide.l0 k bt207.1 0 a0_0 l0_1 t201 t202)) = some (r1, r2) := by rw [if_pos rfl] at H; exact H
 clear H
 have H := H1
 clear H1
 replace H := Option.bind_eq_some_iff.mp H
 obtain ⟨⟨t207, t208⟩, A50, H⟩ := H
 replace H : (spec_Decide.l0 k t207 0 a0_0 l0_1 t201 t202) = some (r1, r2) := H
 have A5 := aM A50
 clear A50
 have H' := aM H
 clear H
 go_enter Try.func13, Try.ntmps13
 go_wp2_with (first | ((with_reducible refine gate_dst (N := 1) rfl ?_); refine box_event ?hg (N := 1) ?hd (cs := #[.int .i64 a0_0, .slice A0_1 l0_1.length c0_1]) (t := 28) ?hr ?_; (case hd => rfl); (case hg => rfl); (case hr => first | (go_simp; done) | (go_simp; rfl) | (obtain ⟨A_, c_, e_⟩ := Kd.R_slice HO204.out; subst e_; (first | (go_simp; done) | (go_simp; rfl))) | (obtain ⟨A_, c_, e_⟩ := Kd.S_slice HO204.out; subst e_; (first | (go_simp; done) | (go_simp; rfl)))); intro gb199 hg w6 hbox hb; have n0_ := aM (bS (bl HB.out) hb); have n1_ := aM (hbox); have n2_ := aM ((by rw [hg]; exact (below_size (bl HB.out)) : w.heap.size ≤ gb199)); have n3_ := aM ((by rw [hg]; exact (below_size (bl HB.out)) : w.heap.size ≤ gb199)); clear HB; have HB := n0_; have BK199 := n1_; have GW199 := n2_; have GE199 := n3_; clear n0_ n1_ n2_ n3_; clear hb hbox hg) | ((with_reducible refine gate_dst (N := 2) rfl ?_); refine box_event ?hg (N := 2) ?hd (cs := #[.int .i64 0, .slice none 0 0]) (t := 28) ?hr ?_; (case hd => rfl); (case hg => rfl); (case hr => first | (go_simp; done) | (go_simp; rfl) | (obtain ⟨A_, c_, e_⟩ := Kd.R_slice HO204.out; subst e_; (first | (go_simp; done) | (go_simp; rfl))) | (obtain ⟨A_, c_, e_⟩ := Kd.S_slice HO204.out; subst e_; (first | (go_simp; done) | (go_simp; rfl)))); intro gb200 hg w7 hbox hb; have n0_ := aM (bB (g := gb199) (o := .cells #[.int .i64 a0_0, .slice A0_1 l0_1.length c0_1] 28 (0, 0)) (bk BK199.out) hb); have n1_ := aM (bS (bl HB.out) hb); have n2_ := aM (hbox); have n3_ := aM ((by rw [hg]; exact (below_size (bl HB.out)) : w.heap.size ≤ gb200)); have n4_ := aM ((by rw [hg]; exact (below_size (bl HB.out)) : w.heap.size ≤ gb200)); have n5_ := aM ((by rw [hg]; exact Nat.ne_of_lt (blk_lt (g := gb199) (o := .cells #[.int .i64 a0_0, .slice A0_1 l0_1.length c0_1] 28 (0, 0)) (bk BK199.out)) : gb199 ≠ gb200)); have n6_ := aM ((by rw [hg]; exact Nat.ne_of_gt (blk_lt (g := gb199) (o := .cells #[.int .i64 a0_0, .slice A0_1 l0_1.length c0_1] 28 (0, 0)) (bk BK199.out)) : gb200 ≠ gb199)); clear BK199 HB; have BK199 := n0_; have HB := n1_; have BK200 := n2_; have GW200 := n3_; have GE200 := n4_; have NB199_200 := n5_; have NB200_199 := n6_; clear n0_ n1_ n2_ n3_ n4_ n5_ n6_; clear hb hbox hg; have hnb8 := NB199_200.out; have hnc8 := NB200_199.out; have hcz9_0 := cI BK199.out 0; have hcz9_1 := cI BK199.out 1; have hfz9_0 := bF BK199.out 0; have hfz9_1 := bF BK199.out 1) | ((with_reducible refine gate_callee (f := 67) rfl ?_); refine goesL_ (some 10) rfl rfl Try.func67 (by kernel_rfl) rfl #[.agg #[.int .i64 a0_0, .slice A0_1 l0_1.length c0_1]] rfl xR ?_; (with_reducible refine (spec_l8Copy.calls a0_0 _ _ l0_1 t201 t202 _ ?side1 ?side2 A2.out).mono ?_); (case side1 => repeat (first | exact (cB HR0_1.out HB.out) | (with_reducible refine Kd.C_alloc ?_ _) | (with_reducible refine Kd.C_drewN ?_ _) | (with_reducible refine Kd.C_drew ?_))); (case side2 => exact HC0_1.out); rintro e w10 ⟨v203, rfl, ho0, hb⟩; refine ⟨_, rfl, ?_⟩; have n0_ := aM (Kd.R_lower ho0 (below_size (bl HB.out))); have n1_ := aM (bB (g := gb199) (o := .cells #[.int .i64 a0_0, .slice A0_1 l0_1.length c0_1] 28 (0, 0)) (bk BK199.out) hb); have n2_ := aM (bB (g := gb200) (o := .cells #[.int .i64 0, .slice none 0 0] 28 (0, 0)) (bk BK200.out) hb); have n3_ := aM (bS (bl HB.out) hb); clear BK199 BK200 HB; have HO204 := n0_; have BK199 := n1_; have BK200 := n2_; have HB := n3_; clear n0_ n1_ n2_ n3_; (try clear hb); (try clear ho0)) | ((with_reducible refine gate_dst (N := 3) rfl ?_); refine box_event ?hg (N := 3) ?hd (cs := #[.int .i64 0, .slice none 0 0]) (t := 28) ?hr ?_; (case hd => rfl); (case hg => rfl); (case hr => first | (go_simp; done) | (go_simp; rfl) | (obtain ⟨A_, c_, e_⟩ := Kd.R_slice HO204.out; subst e_; (first | (go_simp; done) | (go_simp; rfl))) | (obtain ⟨A_, c_, e_⟩ := Kd.S_slice HO204.out; subst e_; (first | (go_simp; done) | (go_simp; rfl)))); intro gb205 hg w11 hbox hb; have n0_ := aM (kB (kr HO204.out) hb); have n1_ := aM (bB (g := gb199) (o := .cells #[.int .i64 a0_0, .slice A0_1 l0_1.length c0_1] 28 (0, 0)) (bk BK199.out) hb); have n2_ := aM (bB (g := gb200) (o := .cells #[.int .i64 0, .slice none 0 0] 28 (0, 0)) (bk BK200.out) hb); have n3_ := aM (bS (bl HB.out) hb); have n4_ := aM (hbox); have n5_ := aM ((by rw [hg]; exact (below_size (bl HB.out)) : w.heap.size ≤ gb205)); have n6_ := aM ((by rw [hg]; exact (below_size (bl HB.out)) : w.heap.size ≤ gb205)); have n7_ := aM ((by rw [hg]; exact Nat.ne_of_lt (blk_lt (g := gb199) (o := .cells #[.int .i64 a0_0, .slice A0_1 l0_1.length c0_1] 28 (0, 0)) (bk BK199.out)) : gb199 ≠ gb205)); have n8_ := aM ((by rw [hg]; exact Nat.ne_of_gt (blk_lt (g := gb199) (o := .cells #[.int .i64 a0_0, .slice A0_1 l0_1.length c0_1] 28 (0, 0)) (bk BK199.out)) : gb205 ≠ gb199)); have n9_ := aM ((by rw [hg]; exact Nat.ne_of_lt (blk_lt (g := gb200) (o := .cells #[.int .i64 0, .slice none 0 0] 28 (0, 0)) (bk BK200.out)) : gb200 ≠ gb205)); have n10_ := aM ((by rw [hg]; exact Nat.ne_of_gt (blk_lt (g := gb200) (o := .cells #[.int .i64 0, .slice none 0 0] 28 (0, 0)) (bk BK200.out)) : gb205 ≠ gb200)); clear HO204 BK199; clear BK200 HB; have HO204 := n0_; have BK199 := n1_; have BK200 := n2_; have HB := n3_; have BK205 := n4_; have GW205 := n5_; have GE205 := n6_; have NB199_205 := n7_; have NB205_199 := n8_; have NB200_205 := n9_; have NB205_200 := n10_; clear n0_ n1_ n2_ n3_ n4_ n5_ n6_ n7_ n8_ n9_ n10_; clear hb hbox hg; have hnb12 := NB205_199.out; have hnc12 := NB199_205.out; have hnb13 := NB205_200.out; have hnc13 := NB200_205.out; have hcz14_0 := cI BK205.out 0; have hcz14_1 := cI BK205.out 1; have hfz14_0 := bF BK205.out 0; have hfz14_1 := bF BK205.out 1; obtain ⟨Ao15, co15, eo15⟩ := Kd.R_slice HO204.out; subst eo15; have hcz16_0 := cI BK199.out 0; have hcz16_1 := cI BK199.out 1; have hfz16_0 := bF BK199.out 0; have hfz16_1 := bF BK199.out 1) | ((with_reducible refine gate_callee (f := 46) rfl ?_); refine goesL_ (some 12) rfl rfl Try.func46 (by kernel_rfl) rfl #[.agg #[.int .i64 a0_0, .slice A0_1 l0_1.length c0_1]] rfl xR ?_; (with_reducible refine (spec_BridgeOk.calls k a0_0 _ _ l0_1 true _ ?side1 ?side2 A3.out).mono ?_); (case side1 => exact cB HR0_1.out (bl HB.out)); (case side2 => exact HC0_1.out); rintro e w17 ⟨rfl, hb⟩; refine ⟨_, rfl, ?_⟩; have n0_ := aM (kB (kr (Kd.R_mono (kF (p := ⟨gb205, 1, none⟩) (kF (p := ⟨gb205, 0, none⟩) (Kd.R_types HO204.out BK205.out (by decide)) (fun _ hk => hk.2) (.int .i64 t201)) (fun _ hk => hk.2) (.slice Ao15 t202.length co15)) (fun _ h_ => h_.1))) hb); have n1_ := aM (bB (g := gb199) (o := .cells #[.int .i64 a0_0, .slice A0_1 l0_1.length c0_1] 28 (0, 0)) (by (with_reducible repeat (first | refine blk_drewN ?_ _ | refine blk_drew ?_ | refine blk_alloc ?_ _)); refine blk_far ?_ NB199_205.out _; (with_reducible repeat (first | refine blk_drewN ?_ _ | refine blk_drew ?_ | refine blk_alloc ?_ _)); refine blk_far ?_ NB199_205.out _; (with_reducible repeat (first | refine blk_drewN ?_ _ | refine blk_drew ?_ | refine blk_alloc ?_ _)); exact BK199.out) hb); have n2_ := aM (bB (g := gb200) (o := .cells #[.int .i64 0, .slice none 0 0] 28 (0, 0)) (by (with_reducible repeat (first | refine blk_drewN ?_ _ | refine blk_drew ?_ | refine blk_alloc ?_ _)); refine blk_far ?_ NB200_205.out _; (with_reducible repeat (first | refine blk_drewN ?_ _ | refine blk_drew ?_ | refine blk_alloc ?_ _)); refine blk_far ?_ NB200_205.out _; (with_reducible repeat (first | refine blk_drewN ?_ _ | refine blk_drew ?_ | refine blk_alloc ?_ _)); exact BK200.out) hb); have n3_ := aM (bB (g := gb205) (o := .cells #[.int .i64 t201, .slice Ao15 t202.length co15] 28 (0, 0)) (by (with_reducible repeat (first | refine blk_drewN ?_ _ | refine blk_drew ?_ | refine blk_alloc ?_ _)); refine blk_put (cs := #[.int .i64 t201, .slice none 0 0]) ?_ 1 _ rfl; (with_reducible repeat (first | refine blk_drewN ?_ _ | refine blk_drew ?_ | refine blk_alloc ?_ _)); refine blk_put (cs := #[.int .i64 0, .slice none 0 0]) ?_ 0 _ rfl; (with_reducible repeat (first | refine blk_drewN ?_ _ | refine blk_drew ?_ | refine blk_alloc ?_ _)); exact BK205.out) hb); have n4_ := aM (bS (bl HB.out) hb); clear HO204 BK199; clear BK200 BK205 HB; have HO204 := n0_; have BK199 := n1_; have BK200 := n2_; have BK205 := n3_; have HB := n4_; clear n0_ n1_ n2_ n3_ n4_; (try clear hb); have hcz18_0 := cI BK199.out 0; have hcz18_1 := cI BK199.out 1; have hfz18_0 := bF BK199.out 0; have hfz18_1 := bF BK199.out 1) | ((with_reducible refine gate_callee (f := 36) rfl ?_); refine goesL_ (some 17) rfl rfl Try.func36 (by kernel_rfl) rfl #[.agg #[.int .i64 a0_0, .slice A0_1 l0_1.length c0_1]] rfl xR ?_; (with_reducible refine (spec_RootPort.calls k a0_0 _ _ l0_1 t207 t208 _ ?side1 ?side2 A5.out).mono ?_); (case side1 => repeat (first | exact (cB HR0_1.out HB.out) | (with_reducible refine Kd.C_alloc ?_ _) | (with_reducible refine Kd.C_drewN ?_ _) | (with_reducible refine Kd.C_drew ?_))); (case side2 => exact HC0_1.out); rintro e w19 ⟨rfl, hb⟩; refine ⟨_, rfl, ?_⟩; have n0_ := aM (kB (kr HO204.out) hb); have n1_ := aM (bB (g := gb199) (o := .cells #[.int .i64 a0_0, .slice A0_1 l0_1.length c0_1] 28 (0, 0)) (bk BK199.out) hb); have n2_ := aM (bB (g := gb200) (o := .cells #[.int .i64 0, .slice none 0 0] 28 (0, 0)) (bk BK200.out) hb); have n3_ := aM (bB (g := gb205) (o := .cells #[.int .i64 t201, .slice Ao15 t202.length co15] 28 (0, 0)) (bk BK205.out) hb); have n4_ := aM (bS (bl HB.out) hb); clear HO204 BK199; clear BK200 BK205 HB; have HO204 := n0_; have BK199 := n1_; have BK200 := n2_; have BK205 := n3_; have HB := n4_; clear n0_ n1_ n2_ n3_ n4_; (try clear hb)))
 go_loopg [6] k (fun kq v6 w' => ∃ (x6_1 : Int) (x206001_1 : List (S79)) (u206001 : Value), v6 = .int .i64 x6_1 ∧ Aside0 (spec_Decide.l0 kq t207 x6_1 a0_0 l0_1 t201 x206001_1 = some (r1, r2)) ∧ Aside0 (kq ≤ k) ∧ Aside0 (Kd.R k79 79 w' w.heap.size (fun _ => True) u206001 x206001_1) ∧ Aside0 (w'.heap[gb199]? = some (.cells #[.int .i64 a0_0, (.slice A0_1 l0_1.length c0_1)] 28 (0, 0))) ∧ Aside0 (w'.heap[gb200]? = some (.cells #[.int .i64 0, (.slice none 0 0)] 28 (0, 0))) ∧ Aside0 (w'.heap[gb205]? = some (.cells #[.int .i64 t201, u206001] 28 (0, 0))) ∧ Aside0 (Below w.heap.size w w'))
 case atStart => exact ⟨(0), (t202), (.slice Ao15 t202.length co15), xE, H', ⟨Nat.le_refl _⟩, ⟨kr HO204.out⟩, ⟨by (with_reducible repeat (first | refine blk_drewN ?_ _ | refine blk_drew ?_ | refine blk_alloc ?_ _)); exact BK199.out⟩, ⟨by (with_reducible repeat (first | refine blk_drewN ?_ _ | refine blk_drew ?_ | refine blk_alloc ?_ _)); exact BK200.out⟩, ⟨by (with_reducible repeat (first | refine blk_drewN ?_ _ | refine blk_drew ?_ | refine blk_alloc ?_ _)); exact BK205.out⟩, ⟨bl HB.out⟩⟩
 case round =>
  clear H'
  try clear c1
  try clear p2
  try clear c3
  try clear c4
  try clear c6
  try clear c8
  try clear c12
  try clear c13
  try clear hcz14_0
  try clear hcz14_1
  try clear hcz16_0
  try clear hcz16_1
  try clear hcz18_0
  try clear hcz18_1
  try clear hcz9_0
  try clear hcz9_1
  try clear hfz14_0
  try clear hfz14_1
  try clear hfz16_0
  try clear hfz16_1
  try clear hfz18_0
  try clear hfz18_1
  try clear hfz9_0
  try clear hfz9_1
  obtain ⟨x6_1, x206001_1, u206001, rfl, HA, HK1, HO_206001, BK199, BK200, BK205, HB⟩ := hrel
  cases gk with
  | zero => exact absurd HA.out (by simp [spec_Decide.l0])
  | succ k1 =>
   have H := HA.out
   clear HA
   simp only [spec_Decide.l0] at H
   by_cases c20 : x6_1 < (l0_1.length : Int)
   case neg =>
    rw [if_neg c20] at H
    have c20b0 : decide (x6_1 < (l0_1.length : Int)) = false := decide_eq_false c20
    clear c20
    simp only [Option.some.injEq, Prod.mk.injEq] at H
    obtain ⟨rfl, rfl⟩ := H
    have hnb100 := NB199_200.out
    have hnc100 := NB200_199.out
    have hnb101 := NB199_205.out
    have hnc101 := NB205_199.out
    have hcz102_0 := cI BK199.out 0
    have hcz102_1 := cI BK199.out 1
    have hfz102_0 := bF BK199.out 0
    have hfz102_1 := bF BK199.out 1
    have hnb103 := NB205_200.out
    have hnc103 := NB200_205.out
    have hcz104_0 := cI BK205.out 0
    have hcz104_1 := cI BK205.out 1
    have hfz104_0 := bF BK205.out 0
    have hfz104_1 := bF BK205.out 1
    have hcz105_0 := cI BK200.out 0
    have hcz105_1 := cI BK200.out 1
    have hfz105_0 := bF BK200.out 0
    have hfz105_1 := bF BK200.out 1
    obtain ⟨Ao106, co106, eo106⟩ := Kd.R_slice HO_206001.out
    subst eo106
    go_wp2
    refine bodyPost_ret (results_cell_row rfl _ _ gb200 28 #[.int .i64 t201, .slice Ao106 x206001_1.length co106] (0, 0) _ rfl (by (with_reducible repeat (first | refine blk_drewN ?_ _ | refine blk_drew ?_ | refine blk_alloc ?_ _)); refine blk_put (cs := #[.int .i64 t201, .slice none 0 0]) ?_ 1 _ rfl; (with_reducible repeat (first | refine blk_drewN ?_ _ | refine blk_drew ?_ | refine blk_alloc ?_ _)); refine blk_put (cs := #[.int .i64 0, .slice none 0 0]) ?_ 0 _ rfl; (with_reducible repeat (first | refine blk_drewN ?_ _ | refine blk_drew ?_ | refine blk_alloc ?_ _)); exact BK200.out) Try.underlying28 rfl (by kernel_rfl)) rfl ?_
    exact ⟨_, xW, by (with_reducible repeat (first | apply Kd.R_alloc | apply Kd.R_drewN | apply Kd.R_drew)); exact Kd.R_mono (kF (p := ⟨gb200, 1, none⟩) (kF (p := ⟨gb200, 0, none⟩) (Kd.R_types HO_206001.out BK200.out (by decide)) (fun _ hk => hk.2) (.int .i64 t201)) (fun _ hk => hk.2) (.slice Ao106 x206001_1.length co106)) (fun _ hk => trivial), bl HB.out⟩
   rw [if_pos c20] at H
   have c20b0 : decide (x6_1 < (l0_1.length : Int)) = true := decide_eq_true c20
   clear c20
   by_cases c21 : 0 ≤ x6_1
   case neg =>
    rw [if_neg c21] at H
    exact absurd H (by simp)
   rw [if_pos c21] at H
   have c21b0 : decide (0 ≤ x6_1) = true := decide_eq_true c21
   clear c21
   by_cases c22 : x6_1 = t207
   case pos =>
    rw [if_pos c22] at H
    have c22b0 : (x6_1 == t207) = true := beq_iff_eq.mpr c22
    have c22b1 : (x6_1 != t207) = false := bne_eq_false_iff_eq.mpr c22
    clear c22
    obtain ⟨bq23, hbq23⟩ : ∃ b_ : Bool, b_ = ((rd_T79 l0_1 x6_1).f0) := ⟨_, rfl⟩
    replace H : (if bq23 = true then ((spec_Turn.f k1 (bq23) ((rd_T79 l0_1 x6_1).f1) ((rd_T79 l0_1 x6_1).f2.f0) ((rd_T79 l0_1 x6_1).f2.f1) ((rd_T79 l0_1 x6_1).f2.f2) ((rd_T79 l0_1 x6_1).f2.f3) ((rd_T79 l0_1 x6_1).f3) ((rd_T79 l0_1 x6_1).f4) ((rd_T79 l0_1 x6_1).f5) ((rd_T79 l0_1 x6_1).f6) ((rd_T79 l0_1 x6_1).f7) 1).bind fun bt211 => (if x6_1 < (x206001_1.length : Int) then (spec_Decide.l0 k1 t207 (wrap64 (x6_1 + 1)) a0_0 l0_1 t201 (x206001_1.set (x6_1 : Int).toNat (⟨bt211.1, bt211.2.1, (⟨bt211.2.2.1, bt211.2.2.2.1, bt211.2.2.2.2.1, bt211.2.2.2.2.2.1⟩ : S73), bt211.2.2.2.2.2.2.1, bt211.2.2.2.2.2.2.2.1, bt211.2.2.2.2.2.2.2.2.1, bt211.2.2.2.2.2.2.2.2.2.1, bt211.2.2.2.2.2.2.2.2.2.2⟩ : S79))) else (none))) else (spec_Decide.l0 k1 t207 (wrap64 (x6_1 + 1)) a0_0 l0_1 t201 x206001_1)) = some (r1, r2) := by rw [← hbq23] at H; exact H
    have Nbq23 := aM hbq23
    clear hbq23
    by_cases c24 : bq23 = true
    case neg =>
     replace c24 := Bool.eq_false_iff.mpr c24
     subst c24
     have H1 : (spec_Decide.l0 k1 t207 (wrap64 (x6_1 + 1)) a0_0 l0_1 t201 x206001_1) = some (r1, r2) := by rw [if_neg (show ¬ (false = true) by decide)] at H; exact H
     clear H
     have H := H1
     clear H1
     have H' := aM H
     clear H
     have hnb40 := NB199_200.out
     have hnc40 := NB200_199.out
     have hnb41 := NB199_205.out
     have hnc41 := NB205_199.out
     have hcz42_0 := cI BK199.out 0
     have hcz42_1 := cI BK199.out 1
     have hfz42_0 := bF BK199.out 0
     have hfz42_1 := bF BK199.out 1
     have p209 : 0 ≤ (x6_1 : Int) := of_decide_eq_true (by first | (with_reducible assumption) | assumption)
     have q209 : x6_1 < (l0_1.length : Int) := of_decide_eq_true (by first | (with_reducible assumption) | assumption)
     obtain ⟨ad209, e209, hx209_0, hx209_1, hx209_2, hx209_3, hx209_4, hx209_5, hx209_6, hx209_7, hx209_8, hx209_9, hx209_10⟩ := at_T79 HR0_1.out x6_1 p209 q209
     (try rw [← Nbq23.out] at hx209_0)
     (try rw [← Nbq23.out] at hx209_1)
     (try rw [← Nbq23.out] at hx209_10)
     cases e209
     replace hx209_0 := (HB.out.cell (World.block_lt_of_cell? w _ hx209_0)).trans hx209_0
     replace hx209_1 := (HB.out.cell (World.block_lt_of_cell? w _ hx209_1)).trans hx209_1
     replace hx209_2 := (HB.out.cell (World.block_lt_of_cell? w _ hx209_2)).trans hx209_2
     replace hx209_3 := (HB.out.cell (World.block_lt_of_cell? w _ hx209_3)).trans hx209_3
     replace hx209_4 := (HB.out.cell (World.block_lt_of_cell? w _ hx209_4)).trans hx209_4
     replace hx209_5 := (HB.out.cell (World.block_lt_of_cell? w _ hx209_5)).trans hx209_5
     replace hx209_6 := (HB.out.cell (World.block_lt_of_cell? w _ hx209_6)).trans hx209_6
     replace hx209_7 := (HB.out.cell (World.block_lt_of_cell? w _ hx209_7)).trans hx209_7
     replace hx209_8 := (HB.out.cell (World.block_lt_of_cell? w _ hx209_8)).trans hx209_8
     replace hx209_9 := (HB.out.cell (World.block_lt_of_cell? w _ hx209_9)).trans hx209_9
     replace hx209_10 := (HB.out.cell (World.block_lt_of_cell? w _ hx209_10)).trans hx209_10
     replace p209 := eq_true p209
     replace q209 := eq_true q209
     go_wp2_with (first | ((with_reducible refine gate_dst (N := 7) rfl ?_); refine box_event ?hg (N := 7) ?hd (cs := #[.bool false, .bool false, .int .i64 0, .int .i64 0, .int .i64 0, .int .i64 0, .int .i64 0, .int .i64 0, .int .i64 0, .int .i64 0, .bool false]) (t := 79) ?hr ?_; (case hd => rfl); (case hg => rfl); (case hr => first | (go_simp; done) | (go_simp; rfl) | (obtain ⟨A_, c_, e_⟩ := Kd.R_slice HO_206001.out; subst e_; (first | (go_simp; done) | (go_simp; rfl))) | (obtain ⟨A_, c_, e_⟩ := Kd.S_slice HO_206001.out; subst e_; (first | (go_simp; done) | (go_simp; rfl)))); intro gb210 hg w43 hbox hb; have n0_ := aM (kB (Kd.R_elderB (kr HO_206001.out) gb210 (Nat.le_of_eq hg.symm)) hb); have n1_ := aM (bB (g := gb199) (o := .cells #[.int .i64 a0_0, .slice (some ad209) l0_1.length c0_1] 28 (0, 0)) (bk BK199.out) hb); have n2_ := aM (bB (g := gb200) (o := .cells #[.int .i64 0, .slice none 0 0] 28 (0, 0)) (bk BK200.out) hb); have n3_ := aM (bB (g := gb205) (o := .cells #[.int .i64 t201, u206001] 28 (0, 0)) (bk BK205.out) hb); have n4_ := aM (bS (bl HB.out) hb); have n5_ := aM (hbox); have n6_ := aM ((by rw [hg]; exact (below_size (bl HB.out)) : w.heap.size ≤ gb210)); have n7_ := aM ((by rw [hg]; exact (below_size (bl HB.out)) : w.heap.size ≤ gb210)); have n8_ := aM ((by rw [hg]; exact Nat.ne_of_lt (blk_lt (g := gb199) (o := .cells #[.int .i64 a0_0, .slice (some ad209) l0_1.length c0_1] 28 (0, 0)) (bk BK199.out)) : gb199 ≠ gb210)); have n9_ := aM ((by rw [hg]; exact Nat.ne_of_gt (blk_lt (g := gb199) (o := .cells #[.int .i64 a0_0, .slice (some ad209) l0_1.length c0_1] 28 (0, 0)) (bk BK199.out)) : gb210 ≠ gb199)); have n10_ := aM ((by rw [hg]; exact Nat.ne_of_lt (blk_lt (g := gb200) (o := .cells #[.int .i64 0, .slice none 0 0] 28 (0, 0)) (bk BK200.out)) : gb200 ≠ gb210)); have n11_ := aM ((by rw [hg]; exact Nat.ne_of_gt (blk_lt (g := gb200) (o := .cells #[.int .i64 0, .slice none 0 0] 28 (0, 0)) (bk BK200.out)) : gb210 ≠ gb200)); have n12_ := aM ((by rw [hg]; exact Nat.ne_of_lt (blk_lt (g := gb205) (o := .cells #[.int .i64 t201, u206001] 28 (0, 0)) (bk BK205.out)) : gb205 ≠ gb210)); have n13_ := aM ((by rw [hg]; exact Nat.ne_of_gt (blk_lt (g := gb205) (o := .cells #[.int .i64 t201, u206001] 28 (0, 0)) (bk BK205.out)) : gb210 ≠ gb205)); clear HO_206001 BK199; clear BK200 BK205 HB; have HO_206001 := n0_; have BK199 := n1_; have BK200 := n2_; have BK205 := n3_; have HB := n4_; have BK210 := n5_; have GW210 := n6_; have GE210 := n7_; have NB199_210 := n8_; have NB210_199 := n9_; have NB200_210 := n10_; have NB210_200 := n11_; have NB205_210 := n12_; have NB210_205 := n13_; clear n0_ n1_ n2_ n3_ n4_ n5_ n6_ n7_ n8_ n9_ n10_ n11_ n12_ n13_; clear hb hbox hg; have hnb44 := NB210_199.out; have hnc44 := NB199_210.out; have hnb45 := NB210_200.out; have hnc45 := NB200_210.out; have hnb46 := NB210_205.out; have hnc46 := NB205_210.out; have hcz47_0 := cI BK210.out 0; have hcz47_1 := cI BK210.out 1; have hcz47_2 := cI BK210.out 2; have hcz47_3 := cI BK210.out 3; have hcz47_4 := cI BK210.out 4; have hcz47_5 := cI BK210.out 5; have hcz47_6 := cI BK210.out 6; have hcz47_7 := cI BK210.out 7; have hcz47_8 := cI BK210.out 8; have hcz47_9 := cI BK210.out 9; have hcz47_10 := cI BK210.out 10; have hfz47_0 := bF BK210.out 0; have hfz47_1 := bF BK210.out 1; have hfz47_2 := bF BK210.out 2; have hfz47_3 := bF BK210.out 3; have hfz47_4 := bF BK210.out 4; have hfz47_5 := bF BK210.out 5; have hfz47_6 := bF BK210.out 6; have hfz47_7 := bF BK210.out 7; have hfz47_8 := bF BK210.out 8; have hfz47_9 := bF BK210.out 9; have hfz47_10 := bF BK210.out 10))
     go_roundg k1
     case measure => have := HK1.out; omega
     case rel => (try rw [← Nbq23.out]); (try rw [← Nbq57.out]); exact ⟨(wrap64 (x6_1 + 1)), (x206001_1), (u206001), xE, H', ⟨by have := HK1.out; omega⟩, ⟨kr (Kd.R_mono (kF (p := ⟨gb210, 10, none⟩) (kF (p := ⟨gb210, 9, none⟩) (kF (p := ⟨gb210, 8, none⟩) (kF (p := ⟨gb210, 7, none⟩) (kF (p := ⟨gb210, 6, none⟩) (kF (p := ⟨gb210, 5, none⟩) (kF (p := ⟨gb210, 4, none⟩) (kF (p := ⟨gb210, 3, none⟩) (kF (p := ⟨gb210, 2, none⟩) (kF (p := ⟨gb210, 1, none⟩) (kF (p := ⟨gb210, 0, none⟩) (Kd.R_mono HO_206001.out (fun k_ hk => (⟨hk, hk.2⟩ : _ ∧ k_ ≠ gb210))) (fun _ hk => hk.2) (.bool false)) (fun _ hk => hk.2) (.bool ((rd_T79 l0_1 x6_1).f1))) (fun _ hk => hk.2) (.int .i64 ((rd_T79 l0_1 x6_1).f2.f0))) (fun _ hk => hk.2) (.int .i64 ((rd_T79 l0_1 x6_1).f2.f1))) (fun _ hk => hk.2) (.int .i64 ((rd_T79 l0_1 x6_1).f2.f2))) (fun _ hk => hk.2) (.int .i64 ((rd_T79 l0_1 x6_1).f2.f3))) (fun _ hk => hk.2) (.int .i64 ((rd_T79 l0_1 x6_1).f3))) (fun _ hk => hk.2) (.int .i64 ((rd_T79 l0_1 x6_1).f4))) (fun _ hk => hk.2) (.int .i64 ((rd_T79 l0_1 x6_1).f5))) (fun _ hk => hk.2) (.int .i64 ((rd_T79 l0_1 x6_1).f6))) (fun _ hk => hk.2) (.bool ((rd_T79 l0_1 x6_1).f7))) (fun _ hk => trivial))⟩, ⟨by (with_reducible repeat (first | refine blk_drewN ?_ _ | refine blk_drew ?_ | refine blk_alloc ?_ _)); refine blk_far ?_ NB199_210.out _; (with_reducible repeat (first | refine blk_drewN ?_ _ | refine blk_drew ?_ | refine blk_alloc ?_ _)); refine blk_far ?_ NB199_210.out _; (with_reducible repeat (first | refine blk_drewN ?_ _ | refine blk_drew ?_ | refine blk_alloc ?_ _)); refine blk_far ?_ NB199_210.out _; (with_reducible repeat (first | refine blk_drewN ?_ _ | refine blk_drew ?_ | refine blk_alloc ?_ _)); refine blk_far ?_ NB199_210.out _; (with_reducible repeat (first | refine blk_drewN ?_ _ | refine blk_drew ?_ | refine blk_alloc ?_ _)); refine blk_far ?_ NB199_210.out _; (with_reducible repeat (first | refine blk_drewN ?_ _ | refine blk_drew ?_ | refine blk_alloc ?_ _)); refine blk_far ?_ NB199_210.out _; (with_reducible repeat (first | refine blk_drewN ?_ _ | refine blk_drew ?_ | refine blk_alloc ?_ _)); refine blk_far ?_ NB199_210.out _; (with_reducible repeat (first | refine blk_drewN ?_ _ | refine blk_drew ?_ | refine blk_alloc ?_ _)); refine blk_far ?_ NB199_210.out _; (with_reducible repeat (first | refine blk_drewN ?_ _ | refine blk_drew ?_ | refine blk_alloc ?_ _)); refine blk_far ?_ NB199_210.out _; (with_reducible repeat (first | refine blk_drewN ?_ _ | refine blk_drew ?_ | refine blk_alloc ?_ _)); refine blk_far ?_ NB199_210.out _; (with_reducible repeat (first | refine blk_drewN ?_ _ | refine blk_drew ?_ | refine blk_alloc ?_ _)); refine blk_far ?_ NB199_210.out _; (with_reducible repeat (first | refine blk_drewN ?_ _ | refine blk_drew ?_ | refine blk_alloc ?_ _)); exact BK199.out⟩, ⟨by (with_reducible repeat (first | refine blk_drewN ?_ _ | refine blk_drew ?_ | refine blk_alloc ?_ _)); refine blk_far ?_ NB200_210.out _; (with_reducible repeat (first | refine blk_drewN ?_ _ | refine blk_drew ?_ | refine blk_alloc ?_ _)); refine blk_far ?_ NB200_210.out _; (with_reducible repeat (first | refine blk_drewN ?_ _ | refine blk_drew ?_ | refine blk_alloc ?_ _)); refine blk_far ?_ NB200_210.out _; (with_reducible repeat (first | refine blk_drewN ?_ _ | refine blk_drew ?_ | refine blk_alloc ?_ _)); refine blk_far ?_ NB200_210.out _; (with_reducible repeat (first | refine blk_drewN ?_ _ | refine blk_drew ?_ | refine blk_alloc ?_ _)); refine blk_far ?_ NB200_210.out _; (with_reducible repeat (first | refine blk_drewN ?_ _ | refine blk_drew ?_ | refine blk_alloc ?_ _)); refine blk_far ?_ NB200_210.out _; (with_reducible repeat (first | refine blk_drewN ?_ _ | refine blk_drew ?_ | refine blk_alloc ?_ _)); refine blk_far ?_ NB200_210.out _; (with_reducible repeat (first | refine blk_drewN ?_ _ | refine blk_drew ?_ | refine blk_alloc ?_ _)); refine blk_far ?_ NB200_210.out _; (with_reducible repeat (first | refine blk_drewN ?_ _ | refine blk_drew ?_ | refine blk_alloc ?_ _)); refine blk_far ?_ NB200_210.out _; (with_reducible repeat (first | refine blk_drewN ?_ _ | refine blk_drew ?_ | refine blk_alloc ?_ _)); refine blk_far ?_ NB200_210.out _; (with_reducible repeat (first | refine blk_drewN ?_ _ | refine blk_drew ?_ | refine blk_alloc ?_ _)); refine blk_far ?_ NB200_210.out _; (with_reducible repeat (first | refine blk_drewN ?_ _ | refine blk_drew ?_ | refine blk_alloc ?_ _)); exact BK200.out⟩, ⟨by (with_reducible repeat (first | refine blk_drewN ?_ _ | refine blk_drew ?_ | refine blk_alloc ?_ _)); refine blk_far ?_ NB205_210.out _; (with_reducible repeat (first | refine blk_drewN ?_ _ | refine blk_drew ?_ | refine blk_alloc ?_ _)); refine blk_far ?_ NB205_210.out _; (with_reducible repeat (first | refine blk_drewN ?_ _ | refine blk_drew ?_ | refine blk_alloc ?_ _)); refine blk_far ?_ NB205_210.out _; (with_reducible repeat (first | refine blk_drewN ?_ _ | refine blk_drew ?_ | refine blk_alloc ?_ _)); refine blk_far ?_ NB205_210.out _; (with_reducible repeat (first | refine blk_drewN ?_ _ | refine blk_drew ?_ | refine blk_alloc ?_ _)); refine blk_far ?_ NB205_210.out _; (with_reducible repeat (first | refine blk_drewN ?_ _ | refine blk_drew ?_ | refine blk_alloc ?_ _)); refine blk_far ?_ NB205_210.out _; (with_reducible repeat (first | refine blk_drewN ?_ _ | refine blk_drew ?_ | refine blk_alloc ?_ _)); refine blk_far ?_ NB205_210.out _; (with_reducible repeat (first | refine blk_drewN ?_ _ | refine blk_drew ?_ | refine blk_alloc ?_ _)); refine blk_far ?_ NB205_210.out _; (with_reducible repeat (first | refine blk_drewN ?_ _ | refine blk_drew ?_ | refine blk_alloc ?_ _)); refine blk_far ?_ NB205_210.out _; (with_reducible repeat (first | refine blk_drewN ?_ _ | refine blk_drew ?_ | refine blk_alloc ?_ _)); refine blk_far ?_ NB205_210.out _; (with_reducible repeat (first | refine blk_drewN ?_ _ | refine blk_drew ?_ | refine blk_alloc ?_ _)); refine blk_far ?_ NB205_210.out _; (with_reducible repeat (first | refine blk_drewN ?_ _ | refine blk_drew ?_ | refine blk_alloc ?_ _)); exact BK205.out⟩, ⟨bl HB.out⟩⟩
    subst c24
    have H1 : ((spec_Turn.f k1 (true) ((rd_T79 l0_1 x6_1).f1) ((rd_T79 l0_1 x6_1).f2.f0) ((rd_T79 l0_1 x6_1).f2.f1) ((rd_T79 l0_1 x6_1).f2.f2) ((rd_T79 l0_1 x6_1).f2.f3) ((rd_T79 l0_1 x6_1).f3) ((rd_T79 l0_1 x6_1).f4) ((rd_T79 l0_1 x6_1).f5) ((rd_T79 l0_1 x6_1).f6) ((rd_T79 l0_1 x6_1).f7) 1).bind fun bt211 => (if x6_1 < (x206001_1.length : Int) then (spec_Decide.l0 k1 t207 (wrap64 (x6_1 + 1)) a0_0 l0_1 t201 (x206001_1.set (x6_1 : Int).toNat (⟨bt211.1, bt211.2.1, (⟨bt211.2.2.1, bt211.2.2.2.1, bt211.2.2.2.2.1, bt211.2.2.2.2.2.1⟩ : S73), bt211.2.2.2.2.2.2.1, bt211.2.2.2.2.2.2.2.1, bt211.2.2.2.2.2.2.2.2.1, bt211.2.2.2.2.2.2.2.2.2.1, bt211.2.2.2.2.2.2.2.2.2.2⟩ : S79))) else (none))) = some (r1, r2) := by rw [if_pos rfl] at H; exact H
    clear H
    have H := H1
    clear H1
    replace H := Option.bind_eq_some_iff.mp H
    obtain ⟨⟨t211, t212, t213, t214, t215, t216, t217, t218, t219, t220, t221⟩, A250, H⟩ := H
    replace H : (if x6_1 < (x206001_1.length : Int) then (spec_Decide.l0 k1 t207 (wrap64 (x6_1 + 1)) a0_0 l0_1 t201 (x206001_1.set (x6_1 : Int).toNat (⟨t211, t212, (⟨t213, t214, t215, t216⟩ : S73), t217, t218, t219, t220, t221⟩ : S79))) else (none)) = some (r1, r2) := H
    have A25 := aM A250
    clear A250
    by_cases c26 : x6_1 < (x206001_1.length : Int)
    case neg =>
     rw [if_neg c26] at H
     exact absurd H (by simp)
    rw [if_pos c26] at H
    have c26b0 : decide (x6_1 < (x206001_1.length : Int)) = true := decide_eq_true c26
    clear c26
    obtain ⟨y222, hy222⟩ : ∃ y_ : List (S79), y_ = (x206001_1.set (x6_1 : Int).toNat (⟨t211, t212, (⟨t213, t214, t215, t216⟩ : S73), t217, t218, t219, t220, t221⟩ : S79)) := ⟨_, rfl⟩
    replace H : (spec_Decide.l0 k1 t207 (wrap64 (x6_1 + 1)) a0_0 l0_1 t201 y222) = some (r1, r2) := by first | (rw [hy222]; with_reducible exact H) | (have H2_ := (Option.bind_some _ _).symm.trans H; rw [hy222]; with_reducible exact H2_) | (have H2_ := (Option.bind_some _ _).symm.trans H; with_reducible exact H2_) | with_reducible exact H | (rw [hy222]; exact H) | exact H
    have Ny222 := aM hy222
    clear hy222
    have H' := aM H
    clear H
    have hnb28 := NB199_200.out
    have hnc28 := NB200_199.out
    have hnb29 := NB199_205.out
    have hnc29 := NB205_199.out
    have hcz30_0 := cI BK199.out 0
    have hcz30_1 := cI BK199.out 1
    have hfz30_0 := bF BK199.out 0
    have hfz30_1 := bF BK199.out 1
    have p209 : 0 ≤ (x6_1 : Int) := of_decide_eq_true (by first | (with_reducible assumption) | assumption)
    have q209 : x6_1 < (l0_1.length : Int) := of_decide_eq_true (by first | (with_reducible assumption) | assumption)
    obtain ⟨ad209, e209, hx209_0, hx209_1, hx209_2, hx209_3, hx209_4, hx209_5, hx209_6, hx209_7, hx209_8, hx209_9, hx209_10⟩ := at_T79 HR0_1.out x6_1 p209 q209
    (try rw [← Nbq23.out] at hx209_0)
    (try rw [← Nbq23.out] at hx209_1)
    (try rw [← Nbq23.out] at hx209_10)
    cases e209
    replace hx209_0 := (HB.out.cell (World.block_lt_of_cell? w _ hx209_0)).trans hx209_0
    replace hx209_1 := (HB.out.cell (World.block_lt_of_cell? w _ hx209_1)).trans hx209_1
    replace hx209_2 := (HB.out.cell (World.block_lt_of_cell? w _ hx209_2)).trans hx209_2
    replace hx209_3 := (HB.out.cell (World.block_lt_of_cell? w _ hx209_3)).trans hx209_3
    replace hx209_4 := (HB.out.cell (World.block_lt_of_cell? w _ hx209_4)).trans hx209_4
    replace hx209_5 := (HB.out.cell (World.block_lt_of_cell? w _ hx209_5)).trans hx209_5
    replace hx209_6 := (HB.out.cell (World.block_lt_of_cell? w _ hx209_6)).trans hx209_6
    replace hx209_7 := (HB.out.cell (World.block_lt_of_cell? w _ hx209_7)).trans hx209_7
    replace hx209_8 := (HB.out.cell (World.block_lt_of_cell? w _ hx209_8)).trans hx209_8
    replace hx209_9 := (HB.out.cell (World.block_lt_of_cell? w _ hx209_9)).trans hx209_9
    replace hx209_10 := (HB.out.cell (World.block_lt_of_cell? w _ hx209_10)).trans hx209_10
    replace p209 := eq_true p209
    replace q209 := eq_true q209
    try go_wp2_with (first | ((with_reducible refine gate_dst (N := 7) rfl ?_); refine box_event ?hg (N := 7) ?hd (cs := #[.bool false, .bool false, .int .i64 0, .int .i64 0, .int .i64 0, .int .i64 0, .int .i64 0, .int .i64 0, .int .i64 0, .int .i64 0, .bool false]) (t := 79) ?hr ?_; (case hd => rfl); (case hg => rfl); (case hr => first | (go_simp; done) | (go_simp; rfl) | (obtain ⟨A_, c_, e_⟩ := Kd.R_slice HO_206001.out; subst e_; (first | (go_simp; done) | (go_simp; rfl))) | (obtain ⟨A_, c_, e_⟩ := Kd.S_slice HO_206001.out; subst e_; (first | (go_simp; done) | (go_simp; rfl)))); intro gb210 hg w31 hbox hb; have n0_ := aM (kB (Kd.R_elderB (kr HO_206001.out) gb210 (Nat.le_of_eq hg.symm)) hb); have n1_ := aM (bB (g := gb199) (o := .cells #[.int .i64 a0_0, .slice (some ad209) l0_1.length c0_1] 28 (0, 0)) (bk BK199.out) hb); have n2_ := aM (bB (g := gb200) (o := .cells #[.int .i64 0, .slice none 0 0] 28 (0, 0)) (bk BK200.out) hb); have n3_ := aM (bB (g := gb205) (o := .cells #[.int .i64 t201, u206001] 28 (0, 0)) (bk BK205.out) hb); have n4_ := aM (bS (bl HB.out) hb); have n5_ := aM (hbox); have n6_ := aM ((by rw [hg]; exact (below_size (bl HB.out)) : w.heap.size ≤ gb210)); have n7_ := aM ((by rw [hg]; exact (below_size (bl HB.out)) : w.heap.size ≤ gb210)); have n8_ := aM ((by rw [hg]; exact Nat.ne_of_lt (blk_lt (g := gb199) (o := .cells #[.int .i64 a0_0, .slice (some ad209) l0_1.length c0_1] 28 (0, 0)) (bk BK199.out)) : gb199 ≠ gb210)); have n9_ := aM ((by rw [hg]; exact Nat.ne_of_gt (blk_lt (g := gb199) (o := .cells #[.int .i64 a0_0, .slice (some ad209) l0_1.length c0_1] 28 (0, 0)) (bk BK199.out)) : gb210 ≠ gb199)); have n10_ := aM ((by rw [hg]; exact Nat.ne_of_lt (blk_lt (g := gb200) (o := .cells #[.int .i64 0, .slice none 0 0] 28 (0, 0)) (bk BK200.out)) : gb200 ≠ gb210)); have n11_ := aM ((by rw [hg]; exact Nat.ne_of_gt (blk_lt (g := gb200) (o := .cells #[.int .i64 0, .slice none 0 0] 28 (0, 0)) (bk BK200.out)) : gb210 ≠ gb200)); have n12_ := aM ((by rw [hg]; exact Nat.ne_of_lt (blk_lt (g := gb205) (o := .cells #[.int .i64 t201, u206001] 28 (0, 0)) (bk BK205.out)) : gb205 ≠ gb210)); have n13_ := aM ((by rw [hg]; exact Nat.ne_of_gt (blk_lt (g := gb205) (o := .cells #[.int .i64 t201, u206001] 28 (0, 0)) (bk BK205.out)) : gb210 ≠ gb205)); clear HO_206001 BK199; clear BK200 BK205 HB; have HO_206001 := n0_; have BK199 := n1_; have BK200 := n2_; have BK205 := n3_; have HB := n4_; have BK210 := n5_; have GW210 := n6_; have GE210 := n7_; have NB199_210 := n8_; have NB210_199 := n9_; have NB200_210 := n10_; have NB210_200 := n11_; have NB205_210 := n12_; have NB210_205 := n13_; clear n0_ n1_ n2_ n3_ n4_ n5_ n6_ n7_ n8_ n9_ n10_ n11_ n12_ n13_; clear hb hbox hg; have hnb32 := NB210_199.out; have hnc32 := NB199_210.out; have hnb33 := NB210_200.out; have hnc33 := NB200_210.out; have hnb34 := NB210_205.out; have hnc34 := NB205_210.out; have hcz35_0 := cI BK210.out 0; have hcz35_1 := cI BK210.out 1; have hcz35_2 := cI BK210.out 2; have hcz35_3 := cI BK210.out 3; have hcz35_4 := cI BK210.out 4; have hcz35_5 := cI BK210.out 5; have hcz35_6 := cI BK210.out 6; have hcz35_7 := cI BK210.out 7; have hcz35_8 := cI BK210.out 8; have hcz35_9 := cI BK210.out 9; have hcz35_10 := cI BK210.out 10; have hfz35_0 := bF BK210.out 0; have hfz35_1 := bF BK210.out 1; have hfz35_2 := bF BK210.out 2; have hfz35_3 := bF BK210.out 3; have hfz35_4 := bF BK210.out 4; have hfz35_5 := bF BK210.out 5; have hfz35_6 := bF BK210.out 6; have hfz35_7 := bF BK210.out 7; have hfz35_8 := bF BK210.out 8; have hfz35_9 := bF BK210.out 9; have hfz35_10 := bF BK210.out 10))
    have n0_ : Aside0 (Kd.R k79 79 (((((((((((w31.setCell ⟨gb210, 0, none⟩ (.bool true)).setCell ⟨gb210, 1, none⟩ (.bool ((rd_T79 l0_1 x6_1).f1))).setCell ⟨gb210, 2, none⟩ (.int .i64 ((rd_T79 l0_1 x6_1).f2.f0))).setCell ⟨gb210, 3, none⟩ (.int .i64 ((rd_T79 l0_1 x6_1).f2.f1))).setCell ⟨gb210, 4, none⟩ (.int .i64 ((rd_T79 l0_1 x6_1).f2.f2))).setCell ⟨gb210, 5, none⟩ (.int .i64 ((rd_T79 l0_1 x6_1).f2.f3))).setCell ⟨gb210, 6, none⟩ (.int .i64 ((rd_T79 l0_1 x6_1).f3))).setCell ⟨gb210, 7, none⟩ (.int .i64 ((rd_T79 l0_1 x6_1).f4))).setCell ⟨gb210, 8, none⟩ (.int .i64 ((rd_T79 l0_1 x6_1).f5))).setCell ⟨gb210, 9, none⟩ (.int .i64 ((rd_T79 l0_1 x6_1).f6))).setCell ⟨gb210, 10, none⟩ (.bool ((rd_T79 l0_1 x6_1).f7))) w.heap.size (fun k_ => k_ ≠ gb210) u206001 x206001_1) := ⟨kr (Kd.R_mono (kF (p := ⟨gb210, 10, none⟩) (kF (p := ⟨gb210, 9, none⟩) (kF (p := ⟨gb210, 8, none⟩) (kF (p := ⟨gb210, 7, none⟩) (kF (p := ⟨gb210, 6, none⟩) (kF (p := ⟨gb210, 5, none⟩) (kF (p := ⟨gb210, 4, none⟩) (kF (p := ⟨gb210, 3, none⟩) (kF (p := ⟨gb210, 2, none⟩) (kF (p := ⟨gb210, 1, none⟩) (kF (p := ⟨gb210, 0, none⟩) (Kd.R_mono HO_206001.out (fun k_ hk => (⟨hk, hk.2⟩ : _ ∧ k_ ≠ gb210))) (fun _ hk => hk.2) (.bool true)) (fun _ hk => hk.2) (.bool ((rd_T79 l0_1 x6_1).f1))) (fun _ hk => hk.2) (.int .i64 ((rd_T79 l0_1 x6_1).f2.f0))) (fun _ hk => hk.2) (.int .i64 ((rd_T79 l0_1 x6_1).f2.f1))) (fun _ hk => hk.2) (.int .i64 ((rd_T79 l0_1 x6_1).f2.f2))) (fun _ hk => hk.2) (.int .i64 ((rd_T79 l0_1 x6_1).f2.f3))) (fun _ hk => hk.2) (.int .i64 ((rd_T79 l0_1 x6_1).f3))) (fun _ hk => hk.2) (.int .i64 ((rd_T79 l0_1 x6_1).f4))) (fun _ hk => hk.2) (.int .i64 ((rd_T79 l0_1 x6_1).f5))) (fun _ hk => hk.2) (.int .i64 ((rd_T79 l0_1 x6_1).f6))) (fun _ hk => hk.2) (.bool ((rd_T79 l0_1 x6_1).f7))) (fun _ hk => hk.1.2))⟩
    have n1_ : Aside0 ((((((((((((w31.setCell ⟨gb210, 0, none⟩ (.bool true)).setCell ⟨gb210, 1, none⟩ (.bool ((rd_T79 l0_1 x6_1).f1))).setCell ⟨gb210, 2, none⟩ (.int .i64 ((rd_T79 l0_1 x6_1).f2.f0))).setCell ⟨gb210, 3, none⟩ (.int .i64 ((rd_T79 l0_1 x6_1).f2.f1))).setCell ⟨gb210, 4, none⟩ (.int .i64 ((rd_T79 l0_1 x6_1).f2.f2))).setCell ⟨gb210, 5, none⟩ (.int .i64 ((rd_T79 l0_1 x6_1).f2.f3))).setCell ⟨gb210, 6, none⟩ (.int .i64 ((rd_T79 l0_1 x6_1).f3))).setCell ⟨gb210, 7, none⟩ (.int .i64 ((rd_T79 l0_1 x6_1).f4))).setCell ⟨gb210, 8, none⟩ (.int .i64 ((rd_T79 l0_1 x6_1).f5))).setCell ⟨gb210, 9, none⟩ (.int .i64 ((rd_T79 l0_1 x6_1).f6))).setCell ⟨gb210, 10, none⟩ (.bool ((rd_T79 l0_1 x6_1).f7))).heap[gb199]? = some (.cells #[.int .i64 a0_0, .slice (some ad209) l0_1.length c0_1] 28 (0, 0))) := ⟨by (with_reducible repeat (first | refine blk_drewN ?_ _ | refine blk_drew ?_ | refine blk_alloc ?_ _)); refine blk_far ?_ NB199_210.out _; (with_reducible repeat (first | refine blk_drewN ?_ _ | refine blk_drew ?_ | refine blk_alloc ?_ _)); refine blk_far ?_ NB199_210.out _; (with_reducible repeat (first | refine blk_drewN ?_ _ | refine blk_drew ?_ | refine blk_alloc ?_ _)); refine blk_far ?_ NB199_210.out _; (with_reducible repeat (first | refine blk_drewN ?_ _ | refine blk_drew ?_ | refine blk_alloc ?_ _)); refine blk_far ?_ NB199_210.out _; (with_reducible repeat (first | refine blk_drewN ?_ _ | refine blk_drew ?_ | refine blk_alloc ?_ _)); refine blk_far ?_ NB199_210.out _; (with_reducible repeat (first | refine blk_drewN ?_ _ | refine blk_drew ?_ | refine blk_alloc ?_ _)); refine blk_far ?_ NB199_210.out _; (with_reducible repeat (first | refine blk_drewN ?_ _ | refine blk_drew ?_ | refine blk_alloc ?_ _)); refine blk_far ?_ NB199_210.out _; (with_reducible repeat (first | refine blk_drewN ?_ _ | refine blk_drew ?_ | refine blk_alloc ?_ _)); refine blk_far ?_ NB199_210.out _; (with_reducible repeat (first | refine blk_drewN ?_ _ | refine blk_drew ?_ | refine blk_alloc ?_ _)); refine blk_far ?_ NB199_210.out _; (with_reducible repeat (first | refine blk_drewN ?_ _ | refine blk_drew ?_ | refine blk_alloc ?_ _)); refine blk_far ?_ NB199_210.out _; (with_reducible repeat (first | refine blk_drewN ?_ _ | refine blk_drew ?_ | refine blk_alloc ?_ _)); refine blk_far ?_ NB199_210.out _; (with_reducible repeat (first | refine blk_drewN ?_ _ | refine blk_drew ?_ | refine blk_alloc ?_ _)); exact BK199.out⟩
    have n2_ : Aside0 ((((((((((((w31.setCell ⟨gb210, 0, none⟩ (.bool true)).setCell ⟨gb210, 1, none⟩ (.bool ((rd_T79 l0_1 x6_1).f1))).setCell ⟨gb210, 2, none⟩ (.int .i64 ((rd_T79 l0_1 x6_1).f2.f0))).setCell ⟨gb210, 3, none⟩ (.int .i64 ((rd_T79 l0_1 x6_1).f2.f1))).setCell ⟨gb210, 4, none⟩ (.int .i64 ((rd_T79 l0_1 x6_1).f2.f2))).setCell ⟨gb210, 5, none⟩ (.int .i64 ((rd_T79 l0_1 x6_1).f2.f3))).setCell ⟨gb210, 6, none⟩ (.int .i64 ((rd_T79 l0_1 x6_1).f3))).setCell ⟨gb210, 7, none⟩ (.int .i64 ((rd_T79 l0_1 x6_1).f4))).setCell ⟨gb210, 8, none⟩ (.int .i64 ((rd_T79 l0_1 x6_1).f5))).setCell ⟨gb210, 9, none⟩ (.int .i64 ((rd_T79 l0_1 x6_1).f6))).setCell ⟨gb210, 10, none⟩ (.bool ((rd_T79 l0_1 x6_1).f7))).heap[gb200]? = some (.cells #[.int .i64 0, .slice none 0 0] 28 (0, 0))) := ⟨by (with_reducible repeat (first | refine blk_drewN ?_ _ | refine blk_drew ?_ | refine blk_alloc ?_ _)); refine blk_far ?_ NB200_210.out _; (with_reducible repeat (first | refine blk_drewN ?_ _ | refine blk_drew ?_ | refine blk_alloc ?_ _)); refine blk_far ?_ NB200_210.out _; (with_reducible repeat (first | refine blk_drewN ?_ _ | refine blk_drew ?_ | refine blk_alloc ?_ _)); refine blk_far ?_ NB200_210.out _; (with_reducible repeat (first | refine blk_drewN ?_ _ | refine blk_drew ?_ | refine blk_alloc ?_ _)); refine blk_far ?_ NB200_210.out _; (with_reducible repeat (first | refine blk_drewN ?_ _ | refine blk_drew ?_ | refine blk_alloc ?_ _)); refine blk_far ?_ NB200_210.out _; (with_reducible repeat (first | refine blk_drewN ?_ _ | refine blk_drew ?_ | refine blk_alloc ?_ _)); refine blk_far ?_ NB200_210.out _; (with_reducible repeat (first | refine blk_drewN ?_ _ | refine blk_drew ?_ | refine blk_alloc ?_ _)); refine blk_far ?_ NB200_210.out _; (with_reducible repeat (first | refine blk_drewN ?_ _ | refine blk_drew ?_ | refine blk_alloc ?_ _)); refine blk_far ?_ NB200_210.out _; (with_reducible repeat (first | refine blk_drewN ?_ _ | refine blk_drew ?_ | refine blk_alloc ?_ _)); refine blk_far ?_ NB200_210.out _; (with_reducible repeat (first | refine blk_drewN ?_ _ | refine blk_drew ?_ | refine blk_alloc ?_ _)); refine blk_far ?_ NB200_210.out _; (with_reducible repeat (first | refine blk_drewN ?_ _ | refine blk_drew ?_ | refine blk_alloc ?_ _)); refine blk_far ?_ NB200_210.out _; (with_reducible repeat (first | refine blk_drewN ?_ _ | refine blk_drew ?_ | refine blk_alloc ?_ _)); exact BK200.out⟩
    have n3_ : Aside0 ((((((((((((w31.setCell ⟨gb210, 0, none⟩ (.bool true)).setCell ⟨gb210, 1, none⟩ (.bool ((rd_T79 l0_1 x6_1).f1))).setCell ⟨gb210, 2, none⟩ (.int .i64 ((rd_T79 l0_1 x6_1).f2.f0))).setCell ⟨gb210, 3, none⟩ (.int .i64 ((rd_T79 l0_1 x6_1).f2.f1))).setCell ⟨gb210, 4, none⟩ (.int .i64 ((rd_T79 l0_1 x6_1).f2.f2))).setCell ⟨gb210, 5, none⟩ (.int .i64 ((rd_T79 l0_1 x6_1).f2.f3))).setCell ⟨gb210, 6, none⟩ (.int .i64 ((rd_T79 l0_1 x6_1).f3))).setCell ⟨gb210, 7, none⟩ (.int .i64 ((rd_T79 l0_1 x6_1).f4))).setCell ⟨gb210, 8, none⟩ (.int .i64 ((rd_T79 l0_1 x6_1).f5))).setCell ⟨gb210, 9, none⟩ (.int .i64 ((rd_T79 l0_1 x6_1).f6))).setCell ⟨gb210, 10, none⟩ (.bool ((rd_T79 l0_1 x6_1).f7))).heap[gb205]? = some (.cells #[.int .i64 t201, u206001] 28 (0, 0))) := ⟨by (with_reducible repeat (first | refine blk_drewN ?_ _ | refine blk_drew ?_ | refine blk_alloc ?_ _)); refine blk_far ?_ NB205_210.out _; (with_reducible repeat (first | refine blk_drewN ?_ _ | refine blk_drew ?_ | refine blk_alloc ?_ _)); refine blk_far ?_ NB205_210.out _; (with_reducible repeat (first | refine blk_drewN ?_ _ | refine blk_drew ?_ | refine blk_alloc ?_ _)); refine blk_far ?_ NB205_210.out _; (with_reducible repeat (first | refine blk_drewN ?_ _ | refine blk_drew ?_ | refine blk_alloc ?_ _)); refine blk_far ?_ NB205_210.out _; (with_reducible repeat (first | refine blk_drewN ?_ _ | refine blk_drew ?_ | refine blk_alloc ?_ _)); refine blk_far ?_ NB205_210.out _; (with_reducible repeat (first | refine blk_drewN ?_ _ | refine blk_drew ?_ | refine blk_alloc ?_ _)); refine blk_far ?_ NB205_210.out _; (with_reducible repeat (first | refine blk_drewN ?_ _ | refine blk_drew ?_ | refine blk_alloc ?_ _)); refine blk_far ?_ NB205_210.out _; (with_reducible repeat (first | refine blk_drewN ?_ _ | refine blk_drew ?_ | refine blk_alloc ?_ _)); refine blk_far ?_ NB205_210.out _; (with_reducible repeat (first | refine blk_drewN ?_ _ | refine blk_drew ?_ | refine blk_alloc ?_ _)); refine blk_far ?_ NB205_210.out _; (with_reducible repeat (first | refine blk_drewN ?_ _ | refine blk_drew ?_ | refine blk_alloc ?_ _)); refine blk_far ?_ NB205_210.out _; (with_reducible repeat (first | refine blk_drewN ?_ _ | refine blk_drew ?_ | refine blk_alloc ?_ _)); refine blk_far ?_ NB205_210.out _; (with_reducible repeat (first | refine blk_drewN ?_ _ | refine blk_drew ?_ | refine blk_alloc ?_ _)); exact BK205.out⟩
    have n4_ : Aside0 ((((((((((((w31.setCell ⟨gb210, 0, none⟩ (.bool true)).setCell ⟨gb210, 1, none⟩ (.bool ((rd_T79 l0_1 x6_1).f1))).setCell ⟨gb210, 2, none⟩ (.int .i64 ((rd_T79 l0_1 x6_1).f2.f0))).setCell ⟨gb210, 3, none⟩ (.int .i64 ((rd_T79 l0_1 x6_1).f2.f1))).setCell ⟨gb210, 4, none⟩ (.int .i64 ((rd_T79 l0_1 x6_1).f2.f2))).setCell ⟨gb210, 5, none⟩ (.int .i64 ((rd_T79 l0_1 x6_1).f2.f3))).setCell ⟨gb210, 6, none⟩ (.int .i64 ((rd_T79 l0_1 x6_1).f3))).setCell ⟨gb210, 7, none⟩ (.int .i64 ((rd_T79 l0_1 x6_1).f4))).setCell ⟨gb210, 8, none⟩ (.int .i64 ((rd_T79 l0_1 x6_1).f5))).setCell ⟨gb210, 9, none⟩ (.int .i64 ((rd_T79 l0_1 x6_1).f6))).setCell ⟨gb210, 10, none⟩ (.bool ((rd_T79 l0_1 x6_1).f7))).heap[gb210]? = some (.cells #[.bool true, .bool ((rd_T79 l0_1 x6_1).f1), .int .i64 ((rd_T79 l0_1 x6_1).f2.f0), .int .i64 ((rd_T79 l0_1 x6_1).f2.f1), .int .i64 ((rd_T79 l0_1 x6_1).f2.f2), .int .i64 ((rd_T79 l0_1 x6_1).f2.f3), .int .i64 ((rd_T79 l0_1 x6_1).f3), .int .i64 ((rd_T79 l0_1 x6_1).f4), .int .i64 ((rd_T79 l0_1 x6_1).f5), .int .i64 ((rd_T79 l0_1 x6_1).f6), .bool ((rd_T79 l0_1 x6_1).f7)] 79 (0, 0))) := ⟨by (with_reducible repeat (first | refine blk_drewN ?_ _ | refine blk_drew ?_ | refine blk_alloc ?_ _)); refine blk_put (cs := #[.bool true, .bool ((rd_T79 l0_1 x6_1).f1), .int .i64 ((rd_T79 l0_1 x6_1).f2.f0), .int .i64 ((rd_T79 l0_1 x6_1).f2.f1), .int .i64 ((rd_T79 l0_1 x6_1).f2.f2), .int .i64 ((rd_T79 l0_1 x6_1).f2.f3), .int .i64 ((rd_T79 l0_1 x6_1).f3), .int .i64 ((rd_T79 l0_1 x6_1).f4), .int .i64 ((rd_T79 l0_1 x6_1).f5), .int .i64 ((rd_T79 l0_1 x6_1).f6), .bool false]) ?_ 10 _ rfl; (with_reducible repeat (first | refine blk_drewN ?_ _ | refine blk_drew ?_ | refine blk_alloc ?_ _)); refine blk_put (cs := #[.bool true, .bool ((rd_T79 l0_1 x6_1).f1), .int .i64 ((rd_T79 l0_1 x6_1).f2.f0), .int .i64 ((rd_T79 l0_1 x6_1).f2.f1), .int .i64 ((rd_T79 l0_1 x6_1).f2.f2), .int .i64 ((rd_T79 l0_1 x6_1).f2.f3), .int .i64 ((rd_T79 l0_1 x6_1).f3), .int .i64 ((rd_T79 l0_1 x6_1).f4), .int .i64 ((rd_T79 l0_1 x6_1).f5), .int .i64 0, .bool false]) ?_ 9 _ rfl; (with_reducible repeat (first | refine blk_drewN ?_ _ | refine blk_drew ?_ | refine blk_alloc ?_ _)); refine blk_put (cs := #[.bool true, .bool ((rd_T79 l0_1 x6_1).f1), .int .i64 ((rd_T79 l0_1 x6_1).f2.f0), .int .i64 ((rd_T79 l0_1 x6_1).f2.f1), .int .i64 ((rd_T79 l0_1 x6_1).f2.f2), .int .i64 ((rd_T79 l0_1 x6_1).f2.f3), .int .i64 ((rd_T79 l0_1 x6_1).f3), .int .i64 ((rd_T79 l0_1 x6_1).f4), .int .i64 0, .int .i64 0, .bool false]) ?_ 8 _ rfl; (with_reducible repeat (first | refine blk_drewN ?_ _ | refine blk_drew ?_ | refine blk_alloc ?_ _)); refine blk_put (cs := #[.bool true, .bool ((rd_T79 l0_1 x6_1).f1), .int .i64 ((rd_T79 l0_1 x6_1).f2.f0), .int .i64 ((rd_T79 l0_1 x6_1).f2.f1), .int .i64 ((rd_T79 l0_1 x6_1).f2.f2), .int .i64 ((rd_T79 l0_1 x6_1).f2.f3), .int .i64 ((rd_T79 l0_1 x6_1).f3), .int .i64 0, .int .i64 0, .int .i64 0, .bool false]) ?_ 7 _ rfl; (with_reducible repeat (first | refine blk_drewN ?_ _ | refine blk_drew ?_ | refine blk_alloc ?_ _)); refine blk_put (cs := #[.bool true, .bool ((rd_T79 l0_1 x6_1).f1), .int .i64 ((rd_T79 l0_1 x6_1).f2.f0), .int .i64 ((rd_T79 l0_1 x6_1).f2.f1), .int .i64 ((rd_T79 l0_1 x6_1).f2.f2), .int .i64 ((rd_T79 l0_1 x6_1).f2.f3), .int .i64 0, .int .i64 0, .int .i64 0, .int .i64 0, .bool false]) ?_ 6 _ rfl; (with_reducible repeat (first | refine blk_drewN ?_ _ | refine blk_drew ?_ | refine blk_alloc ?_ _)); refine blk_put (cs := #[.bool true, .bool ((rd_T79 l0_1 x6_1).f1), .int .i64 ((rd_T79 l0_1 x6_1).f2.f0), .int .i64 ((rd_T79 l0_1 x6_1).f2.f1), .int .i64 ((rd_T79 l0_1 x6_1).f2.f2), .int .i64 0, .int .i64 0, .int .i64 0, .int .i64 0, .int .i64 0, .bool false]) ?_ 5 _ rfl; (with_reducible repeat (first | refine blk_drewN ?_ _ | refine blk_drew ?_ | refine blk_alloc ?_ _)); refine blk_put (cs := #[.bool true, .bool ((rd_T79 l0_1 x6_1).f1), .int .i64 ((rd_T79 l0_1 x6_1).f2.f0), .int .i64 ((rd_T79 l0_1 x6_1).f2.f1), .int .i64 0, .int .i64 0, .int .i64 0, .int .i64 0, .int .i64 0, .int .i64 0, .bool false]) ?_ 4 _ rfl; (with_reducible repeat (first | refine blk_drewN ?_ _ | refine blk_drew ?_ | refine blk_alloc ?_ _)); refine blk_put (cs := #[.bool true, .bool ((rd_T79 l0_1 x6_1).f1), .int .i64 ((rd_T79 l0_1 x6_1).f2.f0), .int .i64 0, .int .i64 0, .int .i64 0, .int .i64 0, .int .i64 0, .int .i64 0, .int .i64 0, .bool false]) ?_ 3 _ rfl; (with_reducible repeat (first | refine blk_drewN ?_ _ | refine blk_drew ?_ | refine blk_alloc ?_ _)); refine blk_put (cs := #[.bool true, .bool ((rd_T79 l0_1 x6_1).f1), .int .i64 0, .int .i64 0, .int .i64 0, .int .i64 0, .int .i64 0, .int .i64 0, .int .i64 0, .int .i64 0, .bool false]) ?_ 2 _ rfl; (with_reducible repeat (first | refine blk_drewN ?_ _ | refine blk_drew ?_ | refine blk_alloc ?_ _)); refine blk_put (cs := #[.bool true, .bool false, .int .i64 0, .int .i64 0, .int .i64 0, .int .i64 0, .int .i64 0, .int .i64 0, .int .i64 0, .int .i64 0, .bool false]) ?_ 1 _ rfl; (with_reducible repeat (first | refine blk_drewN ?_ _ | refine blk_drew ?_ | refine blk_alloc ?_ _)); refine blk_put (cs := #[.bool false, .bool false, .int .i64 0, .int .i64 0, .int .i64 0, .int .i64 0, .int .i64 0, .int .i64 0, .int .i64 0, .int .i64 0, .bool false]) ?_ 0 _ rfl; (with_reducible repeat (first | refine blk_drewN ?_ _ | refine blk_drew ?_ | refine blk_alloc ?_ _)); exact BK210.out⟩
    have n5_ : Aside0 (Below w.heap.size w (((((((((((w31.setCell ⟨gb210, 0, none⟩ (.bool true)).setCell ⟨gb210, 1, none⟩ (.bool ((rd_T79 l0_1 x6_1).f1))).setCell ⟨gb210, 2, none⟩ (.int .i64 ((rd_T79 l0_1 x6_1).f2.f0))).setCell ⟨gb210, 3, none⟩ (.int .i64 ((rd_T79 l0_1 x6_1).f2.f1))).setCell ⟨gb210, 4, none⟩ (.int .i64 ((rd_T79 l0_1 x6_1).f2.f2))).setCell ⟨gb210, 5, none⟩ (.int .i64 ((rd_T79 l0_1 x6_1).f2.f3))).setCell ⟨gb210, 6, none⟩ (.int .i64 ((rd_T79 l0_1 x6_1).f3))).setCell ⟨gb210, 7, none⟩ (.int .i64 ((rd_T79 l0_1 x6_1).f4))).setCell ⟨gb210, 8, none⟩ (.int .i64 ((rd_T79 l0_1 x6_1).f5))).setCell ⟨gb210, 9, none⟩ (.int .i64 ((rd_T79 l0_1 x6_1).f6))).setCell ⟨gb210, 10, none⟩ (.bool ((rd_T79 l0_1 x6_1).f7)))) := ⟨bl HB.out⟩
    (try clear HO_206001)
    (try clear BK199)
    (try clear BK200)
    (try clear BK205)
    (try clear BK210)
    (try clear HB)
    generalize (((((((((((w31.setCell ⟨gb210, 0, none⟩ (.bool true)).setCell ⟨gb210, 1, none⟩ (.bool ((rd_T79 l0_1 x6_1).f1))).setCell ⟨gb210, 2, none⟩ (.int .i64 ((rd_T79 l0_1 x6_1).f2.f0))).setCell ⟨gb210, 3, none⟩ (.int .i64 ((rd_T79 l0_1 x6_1).f2.f1))).setCell ⟨gb210, 4, none⟩ (.int .i64 ((rd_T79 l0_1 x6_1).f2.f2))).setCell ⟨gb210, 5, none⟩ (.int .i64 ((rd_T79 l0_1 x6_1).f2.f3))).setCell ⟨gb210, 6, none⟩ (.int .i64 ((rd_T79 l0_1 x6_1).f3))).setCell ⟨gb210, 7, none⟩ (.int .i64 ((rd_T79 l0_1 x6_1).f4))).setCell ⟨gb210, 8, none⟩ (.int .i64 ((rd_T79 l0_1 x6_1).f5))).setCell ⟨gb210, 9, none⟩ (.int .i64 ((rd_T79 l0_1 x6_1).f6))).setCell ⟨gb210, 10, none⟩ (.bool ((rd_T79 l0_1 x6_1).f7))) = w36 at n0_ n1_ n2_ n3_ n4_ n5_ ⊢
    have HO_206001 := n0_
    have BK199 := n1_
    have BK200 := n2_
    have BK205 := n3_
    have BK210 := n4_
    have HB := n5_
    clear n0_ n1_ n2_ n3_ n4_ n5_
    have n0_ := aM (Kd.R_drew HO_206001.out)
    have n1_ := aM (blk_drew BK199.out)
    have n2_ := aM (blk_drew BK200.out)
    have n3_ := aM (blk_drew BK205.out)
    have n4_ := aM (blk_drew BK210.out)
    have n5_ := aM (below_drew1 HB.out)
    clear HO_206001 BK199
    clear BK200 BK205
    clear BK210 HB
    have HO_206001 := n0_
    have BK199 := n1_
    have BK200 := n2_
    have BK205 := n3_
    have BK210 := n4_
    have HB := n5_
    clear n0_ n1_ n2_ n3_ n4_ n5_
    refine start_ (n := 8) (S := fun w' => w'.cell? ⟨gb205, 0, none⟩ = some (.int .i64 t201) ∧ w'.cell? ⟨gb205, 1, none⟩ = some (u206001) ∧ w'.cell? ⟨gb210, 0, none⟩ = some (.bool true) ∧ w'.cell? ⟨gb210, 1, none⟩ = some (.bool ((rd_T79 l0_1 x6_1).f1)) ∧ w'.cell? ⟨gb210, 2, none⟩ = some (.int .i64 ((rd_T79 l0_1 x6_1).f2.f0)) ∧ w'.cell? ⟨gb210, 3, none⟩ = some (.int .i64 ((rd_T79 l0_1 x6_1).f2.f1)) ∧ w'.cell? ⟨gb210, 4, none⟩ = some (.int .i64 ((rd_T79 l0_1 x6_1).f2.f2)) ∧ w'.cell? ⟨gb210, 5, none⟩ = some (.int .i64 ((rd_T79 l0_1 x6_1).f2.f3)) ∧ w'.cell? ⟨gb210, 6, none⟩ = some (.int .i64 ((rd_T79 l0_1 x6_1).f3)) ∧ w'.cell? ⟨gb210, 7, none⟩ = some (.int .i64 ((rd_T79 l0_1 x6_1).f4)) ∧ w'.cell? ⟨gb210, 8, none⟩ = some (.int .i64 ((rd_T79 l0_1 x6_1).f5)) ∧ w'.cell? ⟨gb210, 9, none⟩ = some (.int .i64 ((rd_T79 l0_1 x6_1).f6)) ∧ w'.cell? ⟨gb210, 10, none⟩ = some (.bool ((rd_T79 l0_1 x6_1).f7))) (ds := [7]) (dn 8 0) (by kernel_rfl) rfl rfl ⟨cI BK205.out 0, cI BK205.out 1, cI BK210.out 0, cI BK210.out 1, cI BK210.out 2, cI BK210.out 3, cI BK210.out 4, cI BK210.out 5, cI BK210.out 6, cI BK210.out 7, cI BK210.out 8, cI BK210.out 9, cI BK210.out 10⟩ (fun hHeld => ?_); refine with_tabW spec_Decide.tab15 spec_Decide.bits15 (fun HT_ HW_ => ?_)
    generalize w36.drew = w37 at HO_206001 BK199 BK200 BK205 BK210 HB hHeld ⊢
    refine nY (N := some 47) HT_ ?_
    refine pure_ (i := 2) (N := some 49) (v := ?_) (a' := ?_) #[Y,U,Y,U,U,U,U,U] rfl rfl (any_of HT_.out (by kernel_rfl)) (fun _ _ _ h => h) (Or.inl ⟨by rfl, ?_⟩) ?_ ?_
    rotate_left
    ·intro w'
     go_simp
     with_reducible rfl
    rotate_left
    ·simp only [Act.put, sA, sZ, sS, i64_w, i32_w]
     rfl
    refine pure_ (i := 4) (N := some 51) (v := ?_) (a' := ?_) #[Y,U,Y,U,Y,U,U,U] rfl rfl (any_of HT_.out (by kernel_rfl)) (fun _ _ _ h => h) (Or.inl ⟨by rfl, ?_⟩) ?_ ?_
    rotate_left
    ·intro w'
     go_simp
     with_reducible rfl
    rotate_left
    ·simp only [Act.put, sA, sZ, sS, i64_w, i32_w]
     rfl
    refine take_ (i := 1) (N := some 48) (v := ?_) (a' := ?_) #[Y,Y,Y,U,Y,U,U,U] rfl rfl (take_ofW HT_.out HW_.out (by kernel_rfl)) (fun _ _ _ h => h) (Or.inl ⟨by rfl, ?_⟩) hHeld ?_ ?_
    rotate_left
    ·rintro w' ⟨s0, s1, s2, s3, s4, s5, s6, s7, s8, s9, s10, s11, s12⟩
     go_simp
     with_reducible rfl
    rotate_left
    ·simp only [Act.put, sA, sZ, sS, i64_w, i32_w]
     rfl
    refine take_ (i := 3) (N := some 50) (v := ?_) (a' := ?_) #[Y,Y,Y,Y,Y,U,U,U] rfl rfl (take_ofW HT_.out HW_.out (by kernel_rfl)) (fun _ _ _ h => h) (Or.inl ⟨by rfl, ?_⟩) hHeld ?_ ?_
    rotate_left
    ·rintro w' ⟨s0, s1, s2, s3, s4, s5, s6, s7, s8, s9, s10, s11, s12⟩
     go_simp
     with_reducible rfl
    rotate_left
    ·simp only [Act.put, sA, sZ, sS, i64_w, i32_w]
     rfl
    refine one_ (i := 5) (N := some 52) #[Y,Y,Y,Y,Y,Y,U,U] rfl rfl (one_of HT_.out (by kernel_rfl)) (by decide) (fun K hK => ?_)
    refine goes_ Try.func69 (by kernel_rfl) rfl #[.agg #[.bool true, .bool ((rd_T79 l0_1 x6_1).f1), .int .i64 ((rd_T79 l0_1 x6_1).f2.f0), .int .i64 ((rd_T79 l0_1 x6_1).f2.f1), .int .i64 ((rd_T79 l0_1 x6_1).f2.f2), .int .i64 ((rd_T79 l0_1 x6_1).f2.f3), .int .i64 ((rd_T79 l0_1 x6_1).f3), .int .i64 ((rd_T79 l0_1 x6_1).f4), .int .i64 ((rd_T79 l0_1 x6_1).f5), .int .i64 ((rd_T79 l0_1 x6_1).f6), .bool ((rd_T79 l0_1 x6_1).f7)], .int .i64 1] (by rfl) rfl rfl xR ?_
    with_reducible refine (spec_Turn.calls k1 true ((rd_T79 l0_1 x6_1).f1) ((rd_T79 l0_1 x6_1).f2.f0) ((rd_T79 l0_1 x6_1).f2.f1) ((rd_T79 l0_1 x6_1).f2.f2) ((rd_T79 l0_1 x6_1).f2.f3) ((rd_T79 l0_1 x6_1).f3) ((rd_T79 l0_1 x6_1).f4) ((rd_T79 l0_1 x6_1).f5) ((rd_T79 l0_1 x6_1).f6) ((rd_T79 l0_1 x6_1).f7) 1 t211 t212 t213 t214 t215 t216 t217 t218 t219 t220 t221 _ A25.out).mono ?_
    rintro e w38 ⟨rfl, hb⟩
    refine ⟨_, rfl, ?_⟩
    have n0_ := aM (kB (kr HO_206001.out) hb)
    have n1_ := aM (bB (g := gb199) (o := .cells #[.int .i64 a0_0, .slice (some ad209) l0_1.length c0_1] 28 (0, 0)) (bk BK199.out) hb)
    have n2_ := aM (bB (g := gb200) (o := .cells #[.int .i64 0, .slice none 0 0] 28 (0, 0)) (bk BK200.out) hb)
    have n3_ := aM (bB (g := gb205) (o := .cells #[.int .i64 t201, u206001] 28 (0, 0)) (bk BK205.out) hb)
    have n4_ := aM (bB (g := gb210) (o := .cells #[.bool true, .bool ((rd_T79 l0_1 x6_1).f1), .int .i64 ((rd_T79 l0_1 x6_1).f2.f0), .int .i64 ((rd_T79 l0_1 x6_1).f2.f1), .int .i64 ((rd_T79 l0_1 x6_1).f2.f2), .int .i64 ((rd_T79 l0_1 x6_1).f2.f3), .int .i64 ((rd_T79 l0_1 x6_1).f3), .int .i64 ((rd_T79 l0_1 x6_1).f4), .int .i64 ((rd_T79 l0_1 x6_1).f5), .int .i64 ((rd_T79 l0_1 x6_1).f6), .bool ((rd_T79 l0_1 x6_1).f7)] 79 (0, 0)) (bk BK210.out) hb)
    have n5_ := aM (bS (bl HB.out) hb)
    clear HO_206001 BK199
    clear BK200 BK205
    clear BK210 HB
    have HO_206001 := n0_
    have BK199 := n1_
    have BK200 := n2_
    have BK205 := n3_
    have BK210 := n4_
    have HB := n5_
    clear n0_ n1_ n2_ n3_ n4_ n5_
    (try clear hb)
    (try clear hb2)
    (try clear hk)
    (try clear hi)
    have p27 : 0 ≤ (x6_1 : Int) := of_decide_eq_true (by first | (with_reducible assumption) | assumption)
    have q27 : (x6_1 : Int) < ((x206001_1.length : Int) : Int) := of_decide_eq_true (by first | (with_reducible assumption) | assumption)
    obtain ⟨go27, co27, eo27, gb27, gl27, cl27, HG27⟩ := Kd.R_form HO_206001.out (by omega)
    (first | cases eo27 | (injection eo27 with ea_ en_ ec_; (first | subst ea_ | (injection ea_ with ea_; subst ea_)); subst ec_; clear en_))
    have GB27 := aM gb27
    have GG27 := aM HG27
    clear gb27 gl27 HG27
    obtain ⟨ce27, hcl27, hM27, hcc27, hfr27⟩ := Kd.R_elem HO_206001.out z79 (x6_1 : Int) p27 q27
    obtain rfl := k79_openM hM27
    have hx27_0 : World.cell? _ ⟨go27, (x6_1 : Int).toNat * 11, none⟩ = some (.bool ((rd_T79 x206001_1 x6_1).f0)) := hcc27 0 _ rfl
    have hx27_1 : World.cell? _ ⟨go27, (x6_1 : Int).toNat * 11 + 1, none⟩ = some (.bool ((rd_T79 x206001_1 x6_1).f1)) := hcc27 1 _ rfl
    have hx27_2 : World.cell? _ ⟨go27, (x6_1 : Int).toNat * 11 + 2, none⟩ = some (.int .i64 ((rd_T79 x206001_1 x6_1).f2.f0)) := hcc27 2 _ rfl
    have hx27_3 : World.cell? _ ⟨go27, (x6_1 : Int).toNat * 11 + 3, none⟩ = some (.int .i64 ((rd_T79 x206001_1 x6_1).f2.f1)) := hcc27 3 _ rfl
    have hx27_4 : World.cell? _ ⟨go27, (x6_1 : Int).toNat * 11 + 4, none⟩ = some (.int .i64 ((rd_T79 x206001_1 x6_1).f2.f2)) := hcc27 4 _ rfl
    have hx27_5 : World.cell? _ ⟨go27, (x6_1 : Int).toNat * 11 + 5, none⟩ = some (.int .i64 ((rd_T79 x206001_1 x6_1).f2.f3)) := hcc27 5 _ rfl
    have hx27_6 : World.cell? _ ⟨go27, (x6_1 : Int).toNat * 11 + 6, none⟩ = some (.int .i64 ((rd_T79 x206001_1 x6_1).f3)) := hcc27 6 _ rfl
    have hx27_7 : World.cell? _ ⟨go27, (x6_1 : Int).toNat * 11 + 7, none⟩ = some (.int .i64 ((rd_T79 x206001_1 x6_1).f4)) := hcc27 7 _ rfl
    have hx27_8 : World.cell? _ ⟨go27, (x6_1 : Int).toNat * 11 + 8, none⟩ = some (.int .i64 ((rd_T79 x206001_1 x6_1).f5)) := hcc27 8 _ rfl
    have hx27_9 : World.cell? _ ⟨go27, (x6_1 : Int).toNat * 11 + 9, none⟩ = some (.int .i64 ((rd_T79 x206001_1 x6_1).f6)) := hcc27 9 _ rfl
    have hx27_10 : World.cell? _ ⟨go27, (x6_1 : Int).toNat * 11 + 10, none⟩ = some (.bool ((rd_T79 x206001_1 x6_1).f7)) := hcc27 10 _ rfl
    have hf27_0 : World.frozen? _ ⟨go27, (x6_1 : Int).toNat * 11, none⟩ = false := hfr27 0
    have hf27_1 : World.frozen? _ ⟨go27, (x6_1 : Int).toNat * 11 + 1, none⟩ = false := hfr27 1
    have hf27_2 : World.frozen? _ ⟨go27, (x6_1 : Int).toNat * 11 + 2, none⟩ = false := hfr27 2
    have hf27_3 : World.frozen? _ ⟨go27, (x6_1 : Int).toNat * 11 + 3, none⟩ = false := hfr27 3
    have hf27_4 : World.frozen? _ ⟨go27, (x6_1 : Int).toNat * 11 + 4, none⟩ = false := hfr27 4
    have hf27_5 : World.frozen? _ ⟨go27, (x6_1 : Int).toNat * 11 + 5, none⟩ = false := hfr27 5
    have hf27_6 : World.frozen? _ ⟨go27, (x6_1 : Int).toNat * 11 + 6, none⟩ = false := hfr27 6
    have hf27_7 : World.frozen? _ ⟨go27, (x6_1 : Int).toNat * 11 + 7, none⟩ = false := hfr27 7
    have hf27_8 : World.frozen? _ ⟨go27, (x6_1 : Int).toNat * 11 + 8, none⟩ = false := hfr27 8
    have hf27_9 : World.frozen? _ ⟨go27, (x6_1 : Int).toNat * 11 + 9, none⟩ = false := hfr27 9
    have hf27_10 : World.frozen? _ ⟨go27, (x6_1 : Int).toNat * 11 + 10, none⟩ = false := hfr27 10
    clear hcl27 hcc27 hfr27 hM27
    replace p27 := eq_true p27
    replace q27 := eq_true q27
    obtain ⟨ce39, hcl39, hM39, hcc39, hfr39⟩ := Kd.R_elem HO_206001.out z79 (x6_1 : Int) (of_decide_eq_true (by first | (with_reducible assumption) | assumption)) (by have h_ : (x6_1 : Int) < ((x206001_1.length : Int) : Int) := of_decide_eq_true (by first | (with_reducible assumption) | assumption); first | exact h_ | (have e_ := (Kd.R_reads' HO_206001.out).1; omega) | simpa using h_)
    obtain rfl := k79_openM hM39
    have HP39 := (Kd.R_seg HO_206001.out (x6_1 : Int) (of_decide_eq_true (by first | (with_reducible assumption) | assumption)) (by have h_ : (x6_1 : Int) < ((x206001_1.length : Int) : Int) := of_decide_eq_true (by first | (with_reducible assumption) | assumption); first | exact h_ | (have e_ := (Kd.R_reads' HO_206001.out).1; omega) | simpa using h_) (seg := [.bool t211, .bool t212, .int .i64 t213, .int .i64 t214, .int .i64 t215, .int .i64 t216, .int .i64 t217, .int .i64 t218, .int .i64 t219, .int .i64 t220, .bool t221]) (j := 0) hcl39 hcc39 (show 11 ≤ 11 from by decide) (x' := (⟨t211, t212, (⟨t213, t214, t215, t216⟩ : S73), t217, t218, t219, t220, t221⟩ : S79)) (k79_mkM _ _ _ (⟨t211, t212, (⟨t213, t214, t215, t216⟩ : S73), t217, t218, t219, t220, t221⟩ : S79) ) (fun _ hk => hk)).1
    rw [← Ny222.out] at HP39
    have HQ39 := aM HP39
    clear hcl39 hcc39 hfr39 hM39 HP39
    refine hK.out _ _ ⟨cI BK205.out 0, cI BK205.out 1, cI BK210.out 0, cI BK210.out 1, cI BK210.out 2, cI BK210.out 3, cI BK210.out 4, cI BK210.out 5, cI BK210.out 6, cI BK210.out 7, cI BK210.out 8, cI BK210.out 9, cI BK210.out 10⟩ (fun hHeld => ?_)
    clear hK K
    refine norm_ (a' := ?_) ?_ ?_
    rotate_left
    ·show Act.put _ (some 52) _ = _
     simp only [Act.put, sA, sZ, sS, i64_w, i32_w]
     rfl
    refine pure_ (i := 6) (N := some 53) (v := ?_) (a' := ?_) #[Y,Y,Y,Y,Y,Y,Y,U] rfl rfl (any_of HT_.out (by kernel_rfl)) (fun _ _ _ h => h) (Or.inl ⟨by rfl, ?_⟩) ?_ ?_
    rotate_left
    ·intro w'
     go_simp
     with_reducible rfl
    rotate_left
    ·simp only [Act.put, sA, sZ, sS, i64_w, i32_w]
     rfl
    refine last_ (i := 7) (N := none) #[Y,Y,Y,Y,Y,Y,Y,Y] rfl rfl (one_of HT_.out (by kernel_rfl)) (by decide) (fun K hK => ?_)
    refine skip_ (w1 := ?_) (by rfl) rfl ?_ ?_
    rotate_left
    ·go_simp
     rfl
    refine hK.out _ _ ?_
    clear hK K
    refine done_ (done_of HT_.out (by kernel_rfl)) ?_
    try go_wp2
    go_roundg k1
    case measure => have := HK1.out; omega
    case rel => (try rw [← Nbq23.out]); (try rw [← Nbq57.out]); exact ⟨(wrap64 (x6_1 + 1)), (y222), (.slice (some ⟨go27, 0, none⟩) x206001_1.length co27), xE, H', ⟨by have := HK1.out; omega⟩, ⟨kr (Kd.R_mono HQ39.out (fun _ hk => trivial))⟩, ⟨by (with_reducible repeat (first | refine blk_drewN ?_ _ | refine blk_drew ?_ | refine blk_alloc ?_ _)); refine blk_far ?_ (by have h_ := Kd.R_ne HO_206001.out BK199.out (by decide); intro e_; exact h_ (by rw [e_]; rfl)) _; (with_reducible repeat (first | refine blk_drewN ?_ _ | refine blk_drew ?_ | refine blk_alloc ?_ _)); refine blk_far ?_ (by have h_ := Kd.R_ne HO_206001.out BK199.out (by decide); intro e_; exact h_ (by rw [e_]; rfl)) _; (with_reducible repeat (first | refine blk_drewN ?_ _ | refine blk_drew ?_ | refine blk_alloc ?_ _)); refine blk_far ?_ (by have h_ := Kd.R_ne HO_206001.out BK199.out (by decide); intro e_; exact h_ (by rw [e_]; rfl)) _; (with_reducible repeat (first | refine blk_drewN ?_ _ | refine blk_drew ?_ | refine blk_alloc ?_ _)); refine blk_far ?_ (by have h_ := Kd.R_ne HO_206001.out BK199.out (by decide); intro e_; exact h_ (by rw [e_]; rfl)) _; (with_reducible repeat (first | refine blk_drewN ?_ _ | refine blk_drew ?_ | refine blk_alloc ?_ _)); refine blk_far ?_ (by have h_ := Kd.R_ne HO_206001.out BK199.out (by decide); intro e_; exact h_ (by rw [e_]; rfl)) _; (with_reducible repeat (first | refine blk_drewN ?_ _ | refine blk_drew ?_ | refine blk_alloc ?_ _)); refine blk_far ?_ (by have h_ := Kd.R_ne HO_206001.out BK199.out (by decide); intro e_; exact h_ (by rw [e_]; rfl)) _; (with_reducible repeat (first | refine blk_drewN ?_ _ | refine blk_drew ?_ | refine blk_alloc ?_ _)); refine blk_far ?_ (by have h_ := Kd.R_ne HO_206001.out BK199.out (by decide); intro e_; exact h_ (by rw [e_]; rfl)) _; (with_reducible repeat (first | refine blk_drewN ?_ _ | refine blk_drew ?_ | refine blk_alloc ?_ _)); refine blk_far ?_ (by have h_ := Kd.R_ne HO_206001.out BK199.out (by decide); intro e_; exact h_ (by rw [e_]; rfl)) _; (with_reducible repeat (first | refine blk_drewN ?_ _ | refine blk_drew ?_ | refine blk_alloc ?_ _)); refine blk_far ?_ (by have h_ := Kd.R_ne HO_206001.out BK199.out (by decide); intro e_; exact h_ (by rw [e_]; rfl)) _; (with_reducible repeat (first | refine blk_drewN ?_ _ | refine blk_drew ?_ | refine blk_alloc ?_ _)); refine blk_far ?_ (by have h_ := Kd.R_ne HO_206001.out BK199.out (by decide); intro e_; exact h_ (by rw [e_]; rfl)) _; (with_reducible repeat (first | refine blk_drewN ?_ _ | refine blk_drew ?_ | refine blk_alloc ?_ _)); refine blk_far ?_ (by have h_ := Kd.R_ne HO_206001.out BK199.out (by decide); intro e_; exact h_ (by rw [e_]; rfl)) _; (with_reducible repeat (first | refine blk_drewN ?_ _ | refine blk_drew ?_ | refine blk_alloc ?_ _)); exact BK199.out⟩, ⟨by (with_reducible repeat (first | refine blk_drewN ?_ _ | refine blk_drew ?_ | refine blk_alloc ?_ _)); refine blk_far ?_ (by have h_ := Kd.R_ne HO_206001.out BK200.out (by decide); intro e_; exact h_ (by rw [e_]; rfl)) _; (with_reducible repeat (first | refine blk_drewN ?_ _ | refine blk_drew ?_ | refine blk_alloc ?_ _)); refine blk_far ?_ (by have h_ := Kd.R_ne HO_206001.out BK200.out (by decide); intro e_; exact h_ (by rw [e_]; rfl)) _; (with_reducible repeat (first | refine blk_drewN ?_ _ | refine blk_drew ?_ | refine blk_alloc ?_ _)); refine blk_far ?_ (by have h_ := Kd.R_ne HO_206001.out BK200.out (by decide); intro e_; exact h_ (by rw [e_]; rfl)) _; (with_reducible repeat (first | refine blk_drewN ?_ _ | refine blk_drew ?_ | refine blk_alloc ?_ _)); refine blk_far ?_ (by have h_ := Kd.R_ne HO_206001.out BK200.out (by decide); intro e_; exact h_ (by rw [e_]; rfl)) _; (with_reducible repeat (first | refine blk_drewN ?_ _ | refine blk_drew ?_ | refine blk_alloc ?_ _)); refine blk_far ?_ (by have h_ := Kd.R_ne HO_206001.out BK200.out (by decide); intro e_; exact h_ (by rw [e_]; rfl)) _; (with_reducible repeat (first | refine blk_drewN ?_ _ | refine blk_drew ?_ | refine blk_alloc ?_ _)); refine blk_far ?_ (by have h_ := Kd.R_ne HO_206001.out BK200.out (by decide); intro e_; exact h_ (by rw [e_]; rfl)) _; (with_reducible repeat (first | refine blk_drewN ?_ _ | refine blk_drew ?_ | refine blk_alloc ?_ _)); refine blk_far ?_ (by have h_ := Kd.R_ne HO_206001.out BK200.out (by decide); intro e_; exact h_ (by rw [e_]; rfl)) _; (with_reducible repeat (first | refine blk_drewN ?_ _ | refine blk_drew ?_ | refine blk_alloc ?_ _)); refine blk_far ?_ (by have h_ := Kd.R_ne HO_206001.out BK200.out (by decide); intro e_; exact h_ (by rw [e_]; rfl)) _; (with_reducible repeat (first | refine blk_drewN ?_ _ | refine blk_drew ?_ | refine blk_alloc ?_ _)); refine blk_far ?_ (by have h_ := Kd.R_ne HO_206001.out BK200.out (by decide); intro e_; exact h_ (by rw [e_]; rfl)) _; (with_reducible repeat (first | refine blk_drewN ?_ _ | refine blk_drew ?_ | refine blk_alloc ?_ _)); refine blk_far ?_ (by have h_ := Kd.R_ne HO_206001.out BK200.out (by decide); intro e_; exact h_ (by rw [e_]; rfl)) _; (with_reducible repeat (first | refine blk_drewN ?_ _ | refine blk_drew ?_ | refine blk_alloc ?_ _)); refine blk_far ?_ (by have h_ := Kd.R_ne HO_206001.out BK200.out (by decide); intro e_; exact h_ (by rw [e_]; rfl)) _; (with_reducible repeat (first | refine blk_drewN ?_ _ | refine blk_drew ?_ | refine blk_alloc ?_ _)); exact BK200.out⟩, ⟨by (with_reducible repeat (first | refine blk_drewN ?_ _ | refine blk_drew ?_ | refine blk_alloc ?_ _)); refine blk_far ?_ (by have h_ := Kd.R_ne HO_206001.out BK205.out (by decide); intro e_; exact h_ (by rw [e_]; rfl)) _; (with_reducible repeat (first | refine blk_drewN ?_ _ | refine blk_drew ?_ | refine blk_alloc ?_ _)); refine blk_far ?_ (by have h_ := Kd.R_ne HO_206001.out BK205.out (by decide); intro e_; exact h_ (by rw [e_]; rfl)) _; (with_reducible repeat (first | refine blk_drewN ?_ _ | refine blk_drew ?_ | refine blk_alloc ?_ _)); refine blk_far ?_ (by have h_ := Kd.R_ne HO_206001.out BK205.out (by decide); intro e_; exact h_ (by rw [e_]; rfl)) _; (with_reducible repeat (first | refine blk_drewN ?_ _ | refine blk_drew ?_ | refine blk_alloc ?_ _)); refine blk_far ?_ (by have h_ := Kd.R_ne HO_206001.out BK205.out (by decide); intro e_; exact h_ (by rw [e_]; rfl)) _; (with_reducible repeat (first | refine blk_drewN ?_ _ | refine blk_drew ?_ | refine blk_alloc ?_ _)); refine blk_far ?_ (by have h_ := Kd.R_ne HO_206001.out BK205.out (by decide); intro e_; exact h_ (by rw [e_]; rfl)) _; (with_reducible repeat (first | refine blk_drewN ?_ _ | refine blk_drew ?_ | refine blk_alloc ?_ _)); refine blk_far ?_ (by have h_ := Kd.R_ne HO_206001.out BK205.out (by decide); intro e_; exact h_ (by rw [e_]; rfl)) _; (with_reducible repeat (first | refine blk_drewN ?_ _ | refine blk_drew ?_ | refine blk_alloc ?_ _)); refine blk_far ?_ (by have h_ := Kd.R_ne HO_206001.out BK205.out (by decide); intro e_; exact h_ (by rw [e_]; rfl)) _; (with_reducible repeat (first | refine blk_drewN ?_ _ | refine blk_drew ?_ | refine blk_alloc ?_ _)); refine blk_far ?_ (by have h_ := Kd.R_ne HO_206001.out BK205.out (by decide); intro e_; exact h_ (by rw [e_]; rfl)) _; (with_reducible repeat (first | refine blk_drewN ?_ _ | refine blk_drew ?_ | refine blk_alloc ?_ _)); refine blk_far ?_ (by have h_ := Kd.R_ne HO_206001.out BK205.out (by decide); intro e_; exact h_ (by rw [e_]; rfl)) _; (with_reducible repeat (first | refine blk_drewN ?_ _ | refine blk_drew ?_ | refine blk_alloc ?_ _)); refine blk_far ?_ (by have h_ := Kd.R_ne HO_206001.out BK205.out (by decide); intro e_; exact h_ (by rw [e_]; rfl)) _; (with_reducible repeat (first | refine blk_drewN ?_ _ | refine blk_drew ?_ | refine blk_alloc ?_ _)); refine blk_far ?_ (by have h_ := Kd.R_ne HO_206001.out BK205.out (by decide); intro e_; exact h_ (by rw [e_]; rfl)) _; (with_reducible repeat (first | refine blk_drewN ?_ _ | refine blk_drew ?_ | refine blk_alloc ?_ _)); exact BK205.out⟩, ⟨by repeat (first | (with_reducible first | exact HB.out | apply below_alloc | apply pw_below_drewN | apply below_drew1 | refine below_set ?_ GB27.out | refine below_set ?_ GB27.out | refine below_set ?_ GB27.out | refine below_set ?_ GB27.out | refine below_set ?_ GB27.out | refine below_set ?_ GB27.out | refine below_set ?_ GB27.out | refine below_set ?_ GB27.out | refine below_set ?_ GB27.out | refine below_set ?_ GB27.out | refine below_set ?_ GB27.out | refine below_set ?_ GE199.out | refine below_set ?_ GE200.out | refine below_set ?_ GE205.out | refine below_set ?_ GE210.out) | exact HB.out)⟩⟩
   rw [if_neg c22] at H
   have c22b0 : (x6_1 == t207) = false := beq_eq_false_iff_ne.mpr c22
   have c22b1 : (x6_1 != t207) = true := bne_iff_ne.mpr c22
   have HC48 := aM H
   clear H
   have hnb49 := NB199_200.out
   have hnc49 := NB200_199.out
   have hnb50 := NB199_205.out
   have hnc50 := NB205_199.out
   have hcz51_0 := cI BK199.out 0
   have hcz51_1 := cI BK199.out 1
   have hfz51_0 := bF BK199.out 0
   have hfz51_1 := bF BK199.out 1
   have p209 : 0 ≤ (x6_1 : Int) := of_decide_eq_true (by first | (with_reducible assumption) | assumption)
   have q209 : x6_1 < (l0_1.length : Int) := of_decide_eq_true (by first | (with_reducible assumption) | assumption)
   obtain ⟨ad209, e209, hx209_0, hx209_1, hx209_2, hx209_3, hx209_4, hx209_5, hx209_6, hx209_7, hx209_8, hx209_9, hx209_10⟩ := at_T79 HR0_1.out x6_1 p209 q209
   cases e209
   replace hx209_0 := (HB.out.cell (World.block_lt_of_cell? w _ hx209_0)).trans hx209_0
   replace hx209_1 := (HB.out.cell (World.block_lt_of_cell? w _ hx209_1)).trans hx209_1
   replace hx209_2 := (HB.out.cell (World.block_lt_of_cell? w _ hx209_2)).trans hx209_2
   replace hx209_3 := (HB.out.cell (World.block_lt_of_cell? w _ hx209_3)).trans hx209_3
   replace hx209_4 := (HB.out.cell (World.block_lt_of_cell? w _ hx209_4)).trans hx209_4
   replace hx209_5 := (HB.out.cell (World.block_lt_of_cell? w _ hx209_5)).trans hx209_5
   replace hx209_6 := (HB.out.cell (World.block_lt_of_cell? w _ hx209_6)).trans hx209_6
   replace hx209_7 := (HB.out.cell (World.block_lt_of_cell? w _ hx209_7)).trans hx209_7
   replace hx209_8 := (HB.out.cell (World.block_lt_of_cell? w _ hx209_8)).trans hx209_8
   replace hx209_9 := (HB.out.cell (World.block_lt_of_cell? w _ hx209_9)).trans hx209_9
   replace hx209_10 := (HB.out.cell (World.block_lt_of_cell? w _ hx209_10)).trans hx209_10
   replace p209 := eq_true p209
   replace q209 := eq_true q209
   go_upto_region 12 with (first | ((with_reducible refine gate_dst (N := 7) rfl ?_); refine box_event ?hg (N := 7) ?hd (cs := #[.bool false, .bool false, .int .i64 0, .int .i64 0, .int .i64 0, .int .i64 0, .int .i64 0, .int .i64 0, .int .i64 0, .int .i64 0, .bool false]) (t := 79) ?hr ?_; (case hd => rfl); (case hg => rfl); (case hr => first | (go_simp; done) | (go_simp; rfl) | (obtain ⟨A_, c_, e_⟩ := Kd.R_slice HO_206001.out; subst e_; (first | (go_simp; done) | (go_simp; rfl))) | (obtain ⟨A_, c_, e_⟩ := Kd.S_slice HO_206001.out; subst e_; (first | (go_simp; done) | (go_simp; rfl)))); intro gb210 hg w52 hbox hb; have n0_ := aM (kB (Kd.R_elderB (kr HO_206001.out) gb210 (Nat.le_of_eq hg.symm)) hb); have n1_ := aM (bB (g := gb199) (o := .cells #[.int .i64 a0_0, .slice (some ad209) l0_1.length c0_1] 28 (0, 0)) (bk BK199.out) hb); have n2_ := aM (bB (g := gb200) (o := .cells #[.int .i64 0, .slice none 0 0] 28 (0, 0)) (bk BK200.out) hb); have n3_ := aM (bB (g := gb205) (o := .cells #[.int .i64 t201, u206001] 28 (0, 0)) (bk BK205.out) hb); have n4_ := aM (bS (bl HB.out) hb); have n5_ := aM (hbox); have n6_ := aM ((by rw [hg]; exact (below_size (bl HB.out)) : w.heap.size ≤ gb210)); have n7_ := aM ((by rw [hg]; exact (below_size (bl HB.out)) : w.heap.size ≤ gb210)); have n8_ := aM ((by rw [hg]; exact Nat.ne_of_lt (blk_lt (g := gb199) (o := .cells #[.int .i64 a0_0, .slice (some ad209) l0_1.length c0_1] 28 (0, 0)) (bk BK199.out)) : gb199 ≠ gb210)); have n9_ := aM ((by rw [hg]; exact Nat.ne_of_gt (blk_lt (g := gb199) (o := .cells #[.int .i64 a0_0, .slice (some ad209) l0_1.length c0_1] 28 (0, 0)) (bk BK199.out)) : gb210 ≠ gb199)); have n10_ := aM ((by rw [hg]; exact Nat.ne_of_lt (blk_lt (g := gb200) (o := .cells #[.int .i64 0, .slice none 0 0] 28 (0, 0)) (bk BK200.out)) : gb200 ≠ gb210)); have n11_ := aM ((by rw [hg]; exact Nat.ne_of_gt (blk_lt (g := gb200) (o := .cells #[.int .i64 0, .slice none 0 0] 28 (0, 0)) (bk BK200.out)) : gb210 ≠ gb200)); have n12_ := aM ((by rw [hg]; exact Nat.ne_of_lt (blk_lt (g := gb205) (o := .cells #[.int .i64 t201, u206001] 28 (0, 0)) (bk BK205.out)) : gb205 ≠ gb210)); have n13_ := aM ((by rw [hg]; exact Nat.ne_of_gt (blk_lt (g := gb205) (o := .cells #[.int .i64 t201, u206001] 28 (0, 0)) (bk BK205.out)) : gb210 ≠ gb205)); clear HO_206001 BK199; clear BK200 BK205 HB; have HO_206001 := n0_; have BK199 := n1_; have BK200 := n2_; have BK205 := n3_; have HB := n4_; have BK210 := n5_; have GW210 := n6_; have GE210 := n7_; have NB199_210 := n8_; have NB210_199 := n9_; have NB200_210 := n10_; have NB210_200 := n11_; have NB205_210 := n12_; have NB210_205 := n13_; clear n0_ n1_ n2_ n3_ n4_ n5_ n6_ n7_ n8_ n9_ n10_ n11_ n12_ n13_; clear hb hbox hg; have hnb53 := NB210_199.out; have hnc53 := NB199_210.out; have hnb54 := NB210_200.out; have hnc54 := NB200_210.out; have hnb55 := NB210_205.out; have hnc55 := NB205_210.out; have hcz56_0 := cI BK210.out 0; have hcz56_1 := cI BK210.out 1; have hcz56_2 := cI BK210.out 2; have hcz56_3 := cI BK210.out 3; have hcz56_4 := cI BK210.out 4; have hcz56_5 := cI BK210.out 5; have hcz56_6 := cI BK210.out 6; have hcz56_7 := cI BK210.out 7; have hcz56_8 := cI BK210.out 8; have hcz56_9 := cI BK210.out 9; have hcz56_10 := cI BK210.out 10; have hfz56_0 := bF BK210.out 0; have hfz56_1 := bF BK210.out 1; have hfz56_2 := bF BK210.out 2; have hfz56_3 := bF BK210.out 3; have hfz56_4 := bF BK210.out 4; have hfz56_5 := bF BK210.out 5; have hfz56_6 := bF BK210.out 6; have hfz56_7 := bF BK210.out 7; have hfz56_8 := bF BK210.out 8; have hfz56_9 := bF BK210.out 9; have hfz56_10 := bF BK210.out 10))
   (try simp only [Act.put, sA, sZ, sS])
   go_cut [44] (fun v44 wc => ∃ (kq : Nat) (x44_47 : Bool), v44 = .bool x44_47 ∧ Aside0 (spec_Decide.j1 kq t207 x6_1 2 x44_47 a0_0 l0_1 t201 x206001_1 ((rd_T79 l0_1 x6_1).f0) ((rd_T79 l0_1 x6_1).f1) ((rd_T79 l0_1 x6_1).f2.f0) ((rd_T79 l0_1 x6_1).f2.f1) ((rd_T79 l0_1 x6_1).f2.f2) ((rd_T79 l0_1 x6_1).f2.f3) ((rd_T79 l0_1 x6_1).f3) ((rd_T79 l0_1 x6_1).f4) ((rd_T79 l0_1 x6_1).f5) ((rd_T79 l0_1 x6_1).f6) ((rd_T79 l0_1 x6_1).f7) = some (r1, r2)) ∧ Aside0 (kq ≤ k1) ∧ Aside0 (Kd.R k79 79 wc w.heap.size (fun k_ => k_ ≠ gb210) u206001 x206001_1) ∧ Aside0 (wc.heap[gb199]? = some (.cells #[.int .i64 a0_0, (.slice (some ad209) l0_1.length c0_1)] 28 (0, 0))) ∧ Aside0 (wc.heap[gb200]? = some (.cells #[.int .i64 0, (.slice none 0 0)] 28 (0, 0))) ∧ Aside0 (wc.heap[gb205]? = some (.cells #[.int .i64 t201, u206001] 28 (0, 0))) ∧ Aside0 (wc.heap[gb210]? = some (.cells #[.bool ((rd_T79 l0_1 x6_1).f0), .bool ((rd_T79 l0_1 x6_1).f1), .int .i64 ((rd_T79 l0_1 x6_1).f2.f0), .int .i64 ((rd_T79 l0_1 x6_1).f2.f1), .int .i64 ((rd_T79 l0_1 x6_1).f2.f2), .int .i64 ((rd_T79 l0_1 x6_1).f2.f3), .int .i64 ((rd_T79 l0_1 x6_1).f3), .int .i64 ((rd_T79 l0_1 x6_1).f4), .int .i64 ((rd_T79 l0_1 x6_1).f5), .int .i64 ((rd_T79 l0_1 x6_1).f6), .bool ((rd_T79 l0_1 x6_1).f7)] 79 (0, 0))) ∧ Aside0 (Below w.heap.size w wc))
   case first =>
    have H := HC48.out
    clear HC48
    obtain ⟨bq57, hbq57⟩ : ∃ b_ : Bool, b_ = ((rd_T79 l0_1 x6_1).f1) := ⟨_, rfl⟩
    replace H : (if bq57 = true then ((spec_Own.f k1 a0_0 l0_1 x6_1).bind fun bt223 => ((spec_Better.f ((rd_T79 l0_1 x6_1).f2.f0) ((rd_T79 l0_1 x6_1).f2.f1) ((rd_T79 l0_1 x6_1).f2.f2) ((rd_T79 l0_1 x6_1).f2.f3) bt223.1 bt223.2.1 bt223.2.2.1 bt223.2.2.2).bind fun t227 => (spec_Decide.j1 k1 t207 x6_1 2 t227 a0_0 l0_1 t201 x206001_1 ((rd_T79 l0_1 x6_1).f0) bq57 ((rd_T79 l0_1 x6_1).f2.f0) ((rd_T79 l0_1 x6_1).f2.f1) ((rd_T79 l0_1 x6_1).f2.f2) ((rd_T79 l0_1 x6_1).f2.f3) ((rd_T79 l0_1 x6_1).f3) ((rd_T79 l0_1 x6_1).f4) ((rd_T79 l0_1 x6_1).f5) ((rd_T79 l0_1 x6_1).f6) ((rd_T79 l0_1 x6_1).f7)))) else (spec_Decide.j1 k1 t207 x6_1 2 false a0_0 l0_1 t201 x206001_1 ((rd_T79 l0_1 x6_1).f0) bq57 ((rd_T79 l0_1 x6_1).f2.f0) ((rd_T79 l0_1 x6_1).f2.f1) ((rd_T79 l0_1 x6_1).f2.f2) ((rd_T79 l0_1 x6_1).f2.f3) ((rd_T79 l0_1 x6_1).f3) ((rd_T79 l0_1 x6_1).f4) ((rd_T79 l0_1 x6_1).f5) ((rd_T79 l0_1 x6_1).f6) ((rd_T79 l0_1 x6_1).f7))) = some (r1, r2) := by rw [← hbq57] at H; exact H
    have Nbq57 := aM hbq57
    clear hbq57
    (try rw [← Nbq57.out])
    by_cases c58 : bq57 = true
    case neg =>
     replace c58 := Bool.eq_false_iff.mpr c58
     subst c58
     have H1 : (spec_Decide.j1 k1 t207 x6_1 2 false a0_0 l0_1 t201 x206001_1 ((rd_T79 l0_1 x6_1).f0) false ((rd_T79 l0_1 x6_1).f2.f0) ((rd_T79 l0_1 x6_1).f2.f1) ((rd_T79 l0_1 x6_1).f2.f2) ((rd_T79 l0_1 x6_1).f2.f3) ((rd_T79 l0_1 x6_1).f3) ((rd_T79 l0_1 x6_1).f4) ((rd_T79 l0_1 x6_1).f5) ((rd_T79 l0_1 x6_1).f6) ((rd_T79 l0_1 x6_1).f7)) = some (r1, r2) := by rw [if_neg (show ¬ (false = true) by decide)] at H; exact H
     clear H
     have H := H1
     clear H1
     have H' := aM H
     clear H
     try go_wp2
     have n0_ : Aside0 (Kd.R k79 79 (((((((((((w52.setCell ⟨gb210, 0, none⟩ (.bool ((rd_T79 l0_1 x6_1).f0))).setCell ⟨gb210, 1, none⟩ (.bool (false))).setCell ⟨gb210, 2, none⟩ (.int .i64 ((rd_T79 l0_1 x6_1).f2.f0))).setCell ⟨gb210, 3, none⟩ (.int .i64 ((rd_T79 l0_1 x6_1).f2.f1))).setCell ⟨gb210, 4, none⟩ (.int .i64 ((rd_T79 l0_1 x6_1).f2.f2))).setCell ⟨gb210, 5, none⟩ (.int .i64 ((rd_T79 l0_1 x6_1).f2.f3))).setCell ⟨gb210, 6, none⟩ (.int .i64 ((rd_T79 l0_1 x6_1).f3))).setCell ⟨gb210, 7, none⟩ (.int .i64 ((rd_T79 l0_1 x6_1).f4))).setCell ⟨gb210, 8, none⟩ (.int .i64 ((rd_T79 l0_1 x6_1).f5))).setCell ⟨gb210, 9, none⟩ (.int .i64 ((rd_T79 l0_1 x6_1).f6))).setCell ⟨gb210, 10, none⟩ (.bool ((rd_T79 l0_1 x6_1).f7))) w.heap.size (fun k_ => k_ ≠ gb210) u206001 x206001_1) := ⟨kr (Kd.R_mono (kF (p := ⟨gb210, 10, none⟩) (kF (p := ⟨gb210, 9, none⟩) (kF (p := ⟨gb210, 8, none⟩) (kF (p := ⟨gb210, 7, none⟩) (kF (p := ⟨gb210, 6, none⟩) (kF (p := ⟨gb210, 5, none⟩) (kF (p := ⟨gb210, 4, none⟩) (kF (p := ⟨gb210, 3, none⟩) (kF (p := ⟨gb210, 2, none⟩) (kF (p := ⟨gb210, 1, none⟩) (kF (p := ⟨gb210, 0, none⟩) (Kd.R_mono HO_206001.out (fun k_ hk => (⟨hk, hk.2⟩ : _ ∧ k_ ≠ gb210))) (fun _ hk => hk.2) (.bool ((rd_T79 l0_1 x6_1).f0))) (fun _ hk => hk.2) (.bool (false))) (fun _ hk => hk.2) (.int .i64 ((rd_T79 l0_1 x6_1).f2.f0))) (fun _ hk => hk.2) (.int .i64 ((rd_T79 l0_1 x6_1).f2.f1))) (fun _ hk => hk.2) (.int .i64 ((rd_T79 l0_1 x6_1).f2.f2))) (fun _ hk => hk.2) (.int .i64 ((rd_T79 l0_1 x6_1).f2.f3))) (fun _ hk => hk.2) (.int .i64 ((rd_T79 l0_1 x6_1).f3))) (fun _ hk => hk.2) (.int .i64 ((rd_T79 l0_1 x6_1).f4))) (fun _ hk => hk.2) (.int .i64 ((rd_T79 l0_1 x6_1).f5))) (fun _ hk => hk.2) (.int .i64 ((rd_T79 l0_1 x6_1).f6))) (fun _ hk => hk.2) (.bool ((rd_T79 l0_1 x6_1).f7))) (fun _ hk => hk.1.2))⟩
     have n1_ : Aside0 ((((((((((((w52.setCell ⟨gb210, 0, none⟩ (.bool ((rd_T79 l0_1 x6_1).f0))).setCell ⟨gb210, 1, none⟩ (.bool (false))).setCell ⟨gb210, 2, none⟩ (.int .i64 ((rd_T79 l0_1 x6_1).f2.f0))).setCell ⟨gb210, 3, none⟩ (.int .i64 ((rd_T79 l0_1 x6_1).f2.f1))).setCell ⟨gb210, 4, none⟩ (.int .i64 ((rd_T79 l0_1 x6_1).f2.f2))).setCell ⟨gb210, 5, none⟩ (.int .i64 ((rd_T79 l0_1 x6_1).f2.f3))).setCell ⟨gb210, 6, none⟩ (.int .i64 ((rd_T79 l0_1 x6_1).f3))).setCell ⟨gb210, 7, none⟩ (.int .i64 ((rd_T79 l0_1 x6_1).f4))).setCell ⟨gb210, 8, none⟩ (.int .i64 ((rd_T79 l0_1 x6_1).f5))).setCell ⟨gb210, 9, none⟩ (.int .i64 ((rd_T79 l0_1 x6_1).f6))).setCell ⟨gb210, 10, none⟩ (.bool ((rd_T79 l0_1 x6_1).f7))).heap[gb199]? = some (.cells #[.int .i64 a0_0, .slice (some ad209) l0_1.length c0_1] 28 (0, 0))) := ⟨by (with_reducible repeat (first | refine blk_drewN ?_ _ | refine blk_drew ?_ | refine blk_alloc ?_ _)); refine blk_far ?_ NB199_210.out _; (with_reducible repeat (first | refine blk_drewN ?_ _ | refine blk_drew ?_ | refine blk_alloc ?_ _)); refine blk_far ?_ NB199_210.out _; (with_reducible repeat (first | refine blk_drewN ?_ _ | refine blk_drew ?_ | refine blk_alloc ?_ _)); refine blk_far ?_ NB199_210.out _; (with_reducible repeat (first | refine blk_drewN ?_ _ | refine blk_drew ?_ | refine blk_alloc ?_ _)); refine blk_far ?_ NB199_210.out _; (with_reducible repeat (first | refine blk_drewN ?_ _ | refine blk_drew ?_ | refine blk_alloc ?_ _)); refine blk_far ?_ NB199_210.out _; (with_reducible repeat (first | refine blk_drewN ?_ _ | refine blk_drew ?_ | refine blk_alloc ?_ _)); refine blk_far ?_ NB199_210.out _; (with_reducible repeat (first | refine blk_drewN ?_ _ | refine blk_drew ?_ | refine blk_alloc ?_ _)); refine blk_far ?_ NB199_210.out _; (with_reducible repeat (first | refine blk_drewN ?_ _ | refine blk_drew ?_ | refine blk_alloc ?_ _)); refine blk_far ?_ NB199_210.out _; (with_reducible repeat (first | refine blk_drewN ?_ _ | refine blk_drew ?_ | refine blk_alloc ?_ _)); refine blk_far ?_ NB199_210.out _; (with_reducible repeat (first | refine blk_drewN ?_ _ | refine blk_drew ?_ | refine blk_alloc ?_ _)); refine blk_far ?_ NB199_210.out _; (with_reducible repeat (first | refine blk_drewN ?_ _ | refine blk_drew ?_ | refine blk_alloc ?_ _)); refine blk_far ?_ NB199_210.out _; (with_reducible repeat (first | refine blk_drewN ?_ _ | refine blk_drew ?_ | refine blk_alloc ?_ _)); exact BK199.out⟩
     have n2_ : Aside0 ((((((((((((w52.setCell ⟨gb210, 0, none⟩ (.bool ((rd_T79 l0_1 x6_1).f0))).setCell ⟨gb210, 1, none⟩ (.bool (false))).setCell ⟨gb210, 2, none⟩ (.int .i64 ((rd_T79 l0_1 x6_1).f2.f0))).setCell ⟨gb210, 3, none⟩ (.int .i64 ((rd_T79 l0_1 x6_1).f2.f1))).setCell ⟨gb210, 4, none⟩ (.int .i64 ((rd_T79 l0_1 x6_1).f2.f2))).setCell ⟨gb210, 5, none⟩ (.int .i64 ((rd_T79 l0_1 x6_1).f2.f3))).setCell ⟨gb210, 6, none⟩ (.int .i64 ((rd_T79 l0_1 x6_1).f3))).setCell ⟨gb210, 7, none⟩ (.int .i64 ((rd_T79 l0_1 x6_1).f4))).setCell ⟨gb210, 8, none⟩ (.int .i64 ((rd_T79 l0_1 x6_1).f5))).setCell ⟨gb210, 9, none⟩ (.int .i64 ((rd_T79 l0_1 x6_1).f6))).setCell ⟨gb210, 10, none⟩ (.bool ((rd_T79 l0_1 x6_1).f7))).heap[gb200]? = some (.cells #[.int .i64 0, .slice none 0 0] 28 (0, 0))) := ⟨by (with_reducible repeat (first | refine blk_drewN ?_ _ | refine blk_drew ?_ | refine blk_alloc ?_ _)); refine blk_far ?_ NB200_210.out _; (with_reducible repeat (first | refine blk_drewN ?_ _ | refine blk_drew ?_ | refine blk_alloc ?_ _)); refine blk_far ?_ NB200_210.out _; (with_reducible repeat (first | refine blk_drewN ?_ _ | refine blk_drew ?_ | refine blk_alloc ?_ _)); refine blk_far ?_ NB200_210.out _; (with_reducible repeat (first | refine blk_drewN ?_ _ | refine blk_drew ?_ | refine blk_alloc ?_ _)); refine blk_far ?_ NB200_210.out _; (with_reducible repeat (first | refine blk_drewN ?_ _ | refine blk_drew ?_ | refine blk_alloc ?_ _)); refine blk_far ?_ NB200_210.out _; (with_reducible repeat (first | refine blk_drewN ?_ _ | refine blk_drew ?_ | refine blk_alloc ?_ _)); refine blk_far ?_ NB200_210.out _; (with_reducible repeat (first | refine blk_drewN ?_ _ | refine blk_drew ?_ | refine blk_alloc ?_ _)); refine blk_far ?_ NB200_210.out _; (with_reducible repeat (first | refine blk_drewN ?_ _ | refine blk_drew ?_ | refine blk_alloc ?_ _)); refine blk_far ?_ NB200_210.out _; (with_reducible repeat (first | refine blk_drewN ?_ _ | refine blk_drew ?_ | refine blk_alloc ?_ _)); refine blk_far ?_ NB200_210.out _; (with_reducible repeat (first | refine blk_drewN ?_ _ | refine blk_drew ?_ | refine blk_alloc ?_ _)); refine blk_far ?_ NB200_210.out _; (with_reducible repeat (first | refine blk_drewN ?_ _ | refine blk_drew ?_ | refine blk_alloc ?_ _)); refine blk_far ?_ NB200_210.out _; (with_reducible repeat (first | refine blk_drewN ?_ _ | refine blk_drew ?_ | refine blk_alloc ?_ _)); exact BK200.out⟩
     have n3_ : Aside0 ((((((((((((w52.setCell ⟨gb210, 0, none⟩ (.bool ((rd_T79 l0_1 x6_1).f0))).setCell ⟨gb210, 1, none⟩ (.bool (false))).setCell ⟨gb210, 2, none⟩ (.int .i64 ((rd_T79 l0_1 x6_1).f2.f0))).setCell ⟨gb210, 3, none⟩ (.int .i64 ((rd_T79 l0_1 x6_1).f2.f1))).setCell ⟨gb210, 4, none⟩ (.int .i64 ((rd_T79 l0_1 x6_1).f2.f2))).setCell ⟨gb210, 5, none⟩ (.int .i64 ((rd_T79 l0_1 x6_1).f2.f3))).setCell ⟨gb210, 6, none⟩ (.int .i64 ((rd_T79 l0_1 x6_1).f3))).setCell ⟨gb210, 7, none⟩ (.int .i64 ((rd_T79 l0_1 x6_1).f4))).setCell ⟨gb210, 8, none⟩ (.int .i64 ((rd_T79 l0_1 x6_1).f5))).setCell ⟨gb210, 9, none⟩ (.int .i64 ((rd_T79 l0_1 x6_1).f6))).setCell ⟨gb210, 10, none⟩ (.bool ((rd_T79 l0_1 x6_1).f7))).heap[gb205]? = some (.cells #[.int .i64 t201, u206001] 28 (0, 0))) := ⟨by (with_reducible repeat (first | refine blk_drewN ?_ _ | refine blk_drew ?_ | refine blk_alloc ?_ _)); refine blk_far ?_ NB205_210.out _; (with_reducible repeat (first | refine blk_drewN ?_ _ | refine blk_drew ?_ | refine blk_alloc ?_ _)); refine blk_far ?_ NB205_210.out _; (with_reducible repeat (first | refine blk_drewN ?_ _ | refine blk_drew ?_ | refine blk_alloc ?_ _)); refine blk_far ?_ NB205_210.out _; (with_reducible repeat (first | refine blk_drewN ?_ _ | refine blk_drew ?_ | refine blk_alloc ?_ _)); refine blk_far ?_ NB205_210.out _; (with_reducible repeat (first | refine blk_drewN ?_ _ | refine blk_drew ?_ | refine blk_alloc ?_ _)); refine blk_far ?_ NB205_210.out _; (with_reducible repeat (first | refine blk_drewN ?_ _ | refine blk_drew ?_ | refine blk_alloc ?_ _)); refine blk_far ?_ NB205_210.out _; (with_reducible repeat (first | refine blk_drewN ?_ _ | refine blk_drew ?_ | refine blk_alloc ?_ _)); refine blk_far ?_ NB205_210.out _; (with_reducible repeat (first | refine blk_drewN ?_ _ | refine blk_drew ?_ | refine blk_alloc ?_ _)); refine blk_far ?_ NB205_210.out _; (with_reducible repeat (first | refine blk_drewN ?_ _ | refine blk_drew ?_ | refine blk_alloc ?_ _)); refine blk_far ?_ NB205_210.out _; (with_reducible repeat (first | refine blk_drewN ?_ _ | refine blk_drew ?_ | refine blk_alloc ?_ _)); refine blk_far ?_ NB205_210.out _; (with_reducible repeat (first | refine blk_drewN ?_ _ | refine blk_drew ?_ | refine blk_alloc ?_ _)); refine blk_far ?_ NB205_210.out _; (with_reducible repeat (first | refine blk_drewN ?_ _ | refine blk_drew ?_ | refine blk_alloc ?_ _)); exact BK205.out⟩
     have n4_ : Aside0 ((((((((((((w52.setCell ⟨gb210, 0, none⟩ (.bool ((rd_T79 l0_1 x6_1).f0))).setCell ⟨gb210, 1, none⟩ (.bool (false))).setCell ⟨gb210, 2, none⟩ (.int .i64 ((rd_T79 l0_1 x6_1).f2.f0))).setCell ⟨gb210, 3, none⟩ (.int .i64 ((rd_T79 l0_1 x6_1).f2.f1))).setCell ⟨gb210, 4, none⟩ (.int .i64 ((rd_T79 l0_1 x6_1).f2.f2))).setCell ⟨gb210, 5, none⟩ (.int .i64 ((rd_T79 l0_1 x6_1).f2.f3))).setCell ⟨gb210, 6, none⟩ (.int .i64 ((rd_T79 l0_1 x6_1).f3))).setCell ⟨gb210, 7, none⟩ (.int .i64 ((rd_T79 l0_1 x6_1).f4))).setCell ⟨gb210, 8, none⟩ (.int .i64 ((rd_T79 l0_1 x6_1).f5))).setCell ⟨gb210, 9, none⟩ (.int .i64 ((rd_T79 l0_1 x6_1).f6))).setCell ⟨gb210, 10, none⟩ (.bool ((rd_T79 l0_1 x6_1).f7))).heap[gb210]? = some (.cells #[.bool ((rd_T79 l0_1 x6_1).f0), .bool false, .int .i64 ((rd_T79 l0_1 x6_1).f2.f0), .int .i64 ((rd_T79 l0_1 x6_1).f2.f1), .int .i64 ((rd_T79 l0_1 x6_1).f2.f2), .int .i64 ((rd_T79 l0_1 x6_1).f2.f3), .int .i64 ((rd_T79 l0_1 x6_1).f3), .int .i64 ((rd_T79 l0_1 x6_1).f4), .int .i64 ((rd_T79 l0_1 x6_1).f5), .int .i64 ((rd_T79 l0_1 x6_1).f6), .bool ((rd_T79 l0_1 x6_1).f7)] 79 (0, 0))) := ⟨by (with_reducible repeat (first | refine blk_drewN ?_ _ | refine blk_drew ?_ | refine blk_alloc ?_ _)); refine blk_put (cs := #[.bool ((rd_T79 l0_1 x6_1).f0), .bool (false), .int .i64 ((rd_T79 l0_1 x6_1).f2.f0), .int .i64 ((rd_T79 l0_1 x6_1).f2.f1), .int .i64 ((rd_T79 l0_1 x6_1).f2.f2), .int .i64 ((rd_T79 l0_1 x6_1).f2.f3), .int .i64 ((rd_T79 l0_1 x6_1).f3), .int .i64 ((rd_T79 l0_1 x6_1).f4), .int .i64 ((rd_T79 l0_1 x6_1).f5), .int .i64 ((rd_T79 l0_1 x6_1).f6), .bool false]) ?_ 10 _ rfl; (with_reducible repeat (first | refine blk_drewN ?_ _ | refine blk_drew ?_ | refine blk_alloc ?_ _)); refine blk_put (cs := #[.bool ((rd_T79 l0_1 x6_1).f0), .bool (false), .int .i64 ((rd_T79 l0_1 x6_1).f2.f0), .int .i64 ((rd_T79 l0_1 x6_1).f2.f1), .int .i64 ((rd_T79 l0_1 x6_1).f2.f2), .int .i64 ((rd_T79 l0_1 x6_1).f2.f3), .int .i64 ((rd_T79 l0_1 x6_1).f3), .int .i64 ((rd_T79 l0_1 x6_1).f4), .int .i64 ((rd_T79 l0_1 x6_1).f5), .int .i64 0, .bool false]) ?_ 9 _ rfl; (with_reducible repeat (first | refine blk_drewN ?_ _ | refine blk_drew ?_ | refine blk_alloc ?_ _)); refine blk_put (cs := #[.bool ((rd_T79 l0_1 x6_1).f0), .bool (false), .int .i64 ((rd_T79 l0_1 x6_1).f2.f0), .int .i64 ((rd_T79 l0_1 x6_1).f2.f1), .int .i64 ((rd_T79 l0_1 x6_1).f2.f2), .int .i64 ((rd_T79 l0_1 x6_1).f2.f3), .int .i64 ((rd_T79 l0_1 x6_1).f3), .int .i64 ((rd_T79 l0_1 x6_1).f4), .int .i64 0, .int .i64 0, .bool false]) ?_ 8 _ rfl; (with_reducible repeat (first | refine blk_drewN ?_ _ | refine blk_drew ?_ | refine blk_alloc ?_ _)); refine blk_put (cs := #[.bool ((rd_T79 l0_1 x6_1).f0), .bool (false), .int .i64 ((rd_T79 l0_1 x6_1).f2.f0), .int .i64 ((rd_T79 l0_1 x6_1).f2.f1), .int .i64 ((rd_T79 l0_1 x6_1).f2.f2), .int .i64 ((rd_T79 l0_1 x6_1).f2.f3), .int .i64 ((rd_T79 l0_1 x6_1).f3), .int .i64 0, .int .i64 0, .int .i64 0, .bool false]) ?_ 7 _ rfl; (with_reducible repeat (first | refine blk_drewN ?_ _ | refine blk_drew ?_ | refine blk_alloc ?_ _)); refine blk_put (cs := #[.bool ((rd_T79 l0_1 x6_1).f0), .bool (false), .int .i64 ((rd_T79 l0_1 x6_1).f2.f0), .int .i64 ((rd_T79 l0_1 x6_1).f2.f1), .int .i64 ((rd_T79 l0_1 x6_1).f2.f2), .int .i64 ((rd_T79 l0_1 x6_1).f2.f3), .int .i64 0, .int .i64 0, .int .i64 0, .int .i64 0, .bool false]) ?_ 6 _ rfl; (with_reducible repeat (first | refine blk_drewN ?_ _ | refine blk_drew ?_ | refine blk_alloc ?_ _)); refine blk_put (cs := #[.bool ((rd_T79 l0_1 x6_1).f0), .bool (false), .int .i64 ((rd_T79 l0_1 x6_1).f2.f0), .int .i64 ((rd_T79 l0_1 x6_1).f2.f1), .int .i64 ((rd_T79 l0_1 x6_1).f2.f2), .int .i64 0, .int .i64 0, .int .i64 0, .int .i64 0, .int .i64 0, .bool false]) ?_ 5 _ rfl; (with_reducible repeat (first | refine blk_drewN ?_ _ | refine blk_drew ?_ | refine blk_alloc ?_ _)); refine blk_put (cs := #[.bool ((rd_T79 l0_1 x6_1).f0), .bool (false), .int .i64 ((rd_T79 l0_1 x6_1).f2.f0), .int .i64 ((rd_T79 l0_1 x6_1).f2.f1), .int .i64 0, .int .i64 0, .int .i64 0, .int .i64 0, .int .i64 0, .int .i64 0, .bool false]) ?_ 4 _ rfl; (with_reducible repeat (first | refine blk_drewN ?_ _ | refine blk_drew ?_ | refine blk_alloc ?_ _)); refine blk_put (cs := #[.bool ((rd_T79 l0_1 x6_1).f0), .bool (false), .int .i64 ((rd_T79 l0_1 x6_1).f2.f0), .int .i64 0, .int .i64 0, .int .i64 0, .int .i64 0, .int .i64 0, .int .i64 0, .int .i64 0, .bool false]) ?_ 3 _ rfl; (with_reducible repeat (first | refine blk_drewN ?_ _ | refine blk_drew ?_ | refine blk_alloc ?_ _)); refine blk_put (cs := #[.bool ((rd_T79 l0_1 x6_1).f0), .bool (false), .int .i64 0, .int .i64 0, .int .i64 0, .int .i64 0, .int .i64 0, .int .i64 0, .int .i64 0, .int .i64 0, .bool false]) ?_ 2 _ rfl; (with_reducible repeat (first | refine blk_drewN ?_ _ | refine blk_drew ?_ | refine blk_alloc ?_ _)); refine blk_put (cs := #[.bool ((rd_T79 l0_1 x6_1).f0), .bool false, .int .i64 0, .int .i64 0, .int .i64 0, .int .i64 0, .int .i64 0, .int .i64 0, .int .i64 0, .int .i64 0, .bool false]) ?_ 1 _ rfl; (with_reducible repeat (first | refine blk_drewN ?_ _ | refine blk_drew ?_ | refine blk_alloc ?_ _)); refine blk_put (cs := #[.bool false, .bool false, .int .i64 0, .int .i64 0, .int .i64 0, .int .i64 0, .int .i64 0, .int .i64 0, .int .i64 0, .int .i64 0, .bool false]) ?_ 0 _ rfl; (with_reducible repeat (first | refine blk_drewN ?_ _ | refine blk_drew ?_ | refine blk_alloc ?_ _)); exact BK210.out⟩
     have n5_ : Aside0 (Below w.heap.size w (((((((((((w52.setCell ⟨gb210, 0, none⟩ (.bool ((rd_T79 l0_1 x6_1).f0))).setCell ⟨gb210, 1, none⟩ (.bool (false))).setCell ⟨gb210, 2, none⟩ (.int .i64 ((rd_T79 l0_1 x6_1).f2.f0))).setCell ⟨gb210, 3, none⟩ (.int .i64 ((rd_T79 l0_1 x6_1).f2.f1))).setCell ⟨gb210, 4, none⟩ (.int .i64 ((rd_T79 l0_1 x6_1).f2.f2))).setCell ⟨gb210, 5, none⟩ (.int .i64 ((rd_T79 l0_1 x6_1).f2.f3))).setCell ⟨gb210, 6, none⟩ (.int .i64 ((rd_T79 l0_1 x6_1).f3))).setCell ⟨gb210, 7, none⟩ (.int .i64 ((rd_T79 l0_1 x6_1).f4))).setCell ⟨gb210, 8, none⟩ (.int .i64 ((rd_T79 l0_1 x6_1).f5))).setCell ⟨gb210, 9, none⟩ (.int .i64 ((rd_T79 l0_1 x6_1).f6))).setCell ⟨gb210, 10, none⟩ (.bool ((rd_T79 l0_1 x6_1).f7)))) := ⟨bl HB.out⟩
     (try clear HO_206001)
     (try clear BK199)
     (try clear BK200)
     (try clear BK205)
     (try clear BK210)
     (try clear HB)
     generalize (((((((((((w52.setCell ⟨gb210, 0, none⟩ (.bool ((rd_T79 l0_1 x6_1).f0))).setCell ⟨gb210, 1, none⟩ (.bool (false))).setCell ⟨gb210, 2, none⟩ (.int .i64 ((rd_T79 l0_1 x6_1).f2.f0))).setCell ⟨gb210, 3, none⟩ (.int .i64 ((rd_T79 l0_1 x6_1).f2.f1))).setCell ⟨gb210, 4, none⟩ (.int .i64 ((rd_T79 l0_1 x6_1).f2.f2))).setCell ⟨gb210, 5, none⟩ (.int .i64 ((rd_T79 l0_1 x6_1).f2.f3))).setCell ⟨gb210, 6, none⟩ (.int .i64 ((rd_T79 l0_1 x6_1).f3))).setCell ⟨gb210, 7, none⟩ (.int .i64 ((rd_T79 l0_1 x6_1).f4))).setCell ⟨gb210, 8, none⟩ (.int .i64 ((rd_T79 l0_1 x6_1).f5))).setCell ⟨gb210, 9, none⟩ (.int .i64 ((rd_T79 l0_1 x6_1).f6))).setCell ⟨gb210, 10, none⟩ (.bool ((rd_T79 l0_1 x6_1).f7))) = w65 at n0_ n1_ n2_ n3_ n4_ n5_ ⊢
     have HO_206001 := n0_
     have BK199 := n1_
     have BK200 := n2_
     have BK205 := n3_
     have BK210 := n4_
     have HB := n5_
     clear n0_ n1_ n2_ n3_ n4_ n5_
     have n0_ := aM (Kd.R_drew HO_206001.out)
     have n1_ := aM (blk_drew BK199.out)
     have n2_ := aM (blk_drew BK200.out)
     have n3_ := aM (blk_drew BK205.out)
     have n4_ := aM (blk_drew BK210.out)
     have n5_ := aM (below_drew1 HB.out)
     clear HO_206001 BK199
     clear BK200 BK205
     clear BK210 HB
     have HO_206001 := n0_
     have BK199 := n1_
     have BK200 := n2_
     have BK205 := n3_
     have BK210 := n4_
     have HB := n5_
     clear n0_ n1_ n2_ n3_ n4_ n5_
     refine start_ (n := 10) (S := fun w' => w'.cell? ⟨gb210, 0, none⟩ = some (.bool ((rd_T79 l0_1 x6_1).f0)) ∧ w'.cell? ⟨gb210, 1, none⟩ = some (.bool false) ∧ w'.cell? ⟨gb210, 2, none⟩ = some (.int .i64 ((rd_T79 l0_1 x6_1).f2.f0)) ∧ w'.cell? ⟨gb210, 3, none⟩ = some (.int .i64 ((rd_T79 l0_1 x6_1).f2.f1)) ∧ w'.cell? ⟨gb210, 4, none⟩ = some (.int .i64 ((rd_T79 l0_1 x6_1).f2.f2)) ∧ w'.cell? ⟨gb210, 5, none⟩ = some (.int .i64 ((rd_T79 l0_1 x6_1).f2.f3)) ∧ w'.cell? ⟨gb210, 6, none⟩ = some (.int .i64 ((rd_T79 l0_1 x6_1).f3)) ∧ w'.cell? ⟨gb210, 7, none⟩ = some (.int .i64 ((rd_T79 l0_1 x6_1).f4)) ∧ w'.cell? ⟨gb210, 8, none⟩ = some (.int .i64 ((rd_T79 l0_1 x6_1).f5)) ∧ w'.cell? ⟨gb210, 9, none⟩ = some (.int .i64 ((rd_T79 l0_1 x6_1).f6)) ∧ w'.cell? ⟨gb210, 10, none⟩ = some (.bool ((rd_T79 l0_1 x6_1).f7))) (ds := []) (dn 10 0) (by kernel_rfl) rfl rfl ⟨cI BK210.out 0, cI BK210.out 1, cI BK210.out 2, cI BK210.out 3, cI BK210.out 4, cI BK210.out 5, cI BK210.out 6, cI BK210.out 7, cI BK210.out 8, cI BK210.out 9, cI BK210.out 10⟩ (fun hHeld => ?_); refine with_tabW spec_Decide.tab12 spec_Decide.bits12 (fun HT_ HW_ => ?_)
     generalize w65.drew = w66 at HO_206001 BK199 BK200 BK205 BK210 HB hHeld ⊢
     refine nY (N := some 35) HT_ ?_
     refine tY (N := some 36) HT_ HW_ hHeld ?_
     refine nY (N := some 37) HT_ ?_
     refine nU (N := some 38) HT_ ?_
     refine nU (N := some 39) HT_ ?_
     refine nU (N := some 40) HT_ ?_
     refine nU (N := some 41) HT_ ?_
     refine nU (N := some 42) HT_ ?_
     refine nU (N := some 43) HT_ ?_
     refine nY (N := some 44) HT_ ?_
     refine done_ (done_of HT_.out (by kernel_rfl)) ?_
     try go_wp2
     go_meet
     case rel => (try rw [← Nbq23.out]); (try rw [← Nbq57.out]); exact ⟨_, (false), xE, H', ⟨by have := HK1.out; first | omega | exact Nat.le_refl _⟩, ⟨kr HO_206001.out⟩, ⟨by (with_reducible repeat (first | refine blk_drewN ?_ _ | refine blk_drew ?_ | refine blk_alloc ?_ _)); exact BK199.out⟩, ⟨by (with_reducible repeat (first | refine blk_drewN ?_ _ | refine blk_drew ?_ | refine blk_alloc ?_ _)); exact BK200.out⟩, ⟨by (with_reducible repeat (first | refine blk_drewN ?_ _ | refine blk_drew ?_ | refine blk_alloc ?_ _)); exact BK205.out⟩, ⟨by (with_reducible repeat (first | refine blk_drewN ?_ _ | refine blk_drew ?_ | refine blk_alloc ?_ _)); exact BK210.out⟩, ⟨bl HB.out⟩⟩
    subst c58
    have H1 : ((spec_Own.f k1 a0_0 l0_1 x6_1).bind fun bt223 => ((spec_Better.f ((rd_T79 l0_1 x6_1).f2.f0) ((rd_T79 l0_1 x6_1).f2.f1) ((rd_T79 l0_1 x6_1).f2.f2) ((rd_T79 l0_1 x6_1).f2.f3) bt223.1 bt223.2.1 bt223.2.2.1 bt223.2.2.2).bind fun t227 => (spec_Decide.j1 k1 t207 x6_1 2 t227 a0_0 l0_1 t201 x206001_1 ((rd_T79 l0_1 x6_1).f0) true ((rd_T79 l0_1 x6_1).f2.f0) ((rd_T79 l0_1 x6_1).f2.f1) ((rd_T79 l0_1 x6_1).f2.f2) ((rd_T79 l0_1 x6_1).f2.f3) ((rd_T79 l0_1 x6_1).f3) ((rd_T79 l0_1 x6_1).f4) ((rd_T79 l0_1 x6_1).f5) ((rd_T79 l0_1 x6_1).f6) ((rd_T79 l0_1 x6_1).f7)))) = some (r1, r2) := by rw [if_pos rfl] at H; exact H
    clear H
    have H := H1
    clear H1
    replace H := Option.bind_eq_some_iff.mp H
    obtain ⟨⟨t223, t224, t225, t226⟩, A590, H⟩ := H
    replace H : ((spec_Better.f ((rd_T79 l0_1 x6_1).f2.f0) ((rd_T79 l0_1 x6_1).f2.f1) ((rd_T79 l0_1 x6_1).f2.f2) ((rd_T79 l0_1 x6_1).f2.f3) t223 t224 t225 t226).bind fun t227 => (spec_Decide.j1 k1 t207 x6_1 2 t227 a0_0 l0_1 t201 x206001_1 ((rd_T79 l0_1 x6_1).f0) true ((rd_T79 l0_1 x6_1).f2.f0) ((rd_T79 l0_1 x6_1).f2.f1) ((rd_T79 l0_1 x6_1).f2.f2) ((rd_T79 l0_1 x6_1).f2.f3) ((rd_T79 l0_1 x6_1).f3) ((rd_T79 l0_1 x6_1).f4) ((rd_T79 l0_1 x6_1).f5) ((rd_T79 l0_1 x6_1).f6) ((rd_T79 l0_1 x6_1).f7))) = some (r1, r2) := H
    have A59 := aM A590
    clear A590
    replace H := Option.bind_eq_some_iff.mp H
    obtain ⟨t227, A600, H⟩ := H
    replace H : (spec_Decide.j1 k1 t207 x6_1 2 t227 a0_0 l0_1 t201 x206001_1 ((rd_T79 l0_1 x6_1).f0) true ((rd_T79 l0_1 x6_1).f2.f0) ((rd_T79 l0_1 x6_1).f2.f1) ((rd_T79 l0_1 x6_1).f2.f2) ((rd_T79 l0_1 x6_1).f2.f3) ((rd_T79 l0_1 x6_1).f3) ((rd_T79 l0_1 x6_1).f4) ((rd_T79 l0_1 x6_1).f5) ((rd_T79 l0_1 x6_1).f6) ((rd_T79 l0_1 x6_1).f7)) = some (r1, r2) := H
    have A60 := aM A600
    clear A600
    have H' := aM H
    clear H
    try go_wp2
    have n0_ : Aside0 (Kd.R k79 79 (((((((((((w52.setCell ⟨gb210, 0, none⟩ (.bool ((rd_T79 l0_1 x6_1).f0))).setCell ⟨gb210, 1, none⟩ (.bool (true))).setCell ⟨gb210, 2, none⟩ (.int .i64 ((rd_T79 l0_1 x6_1).f2.f0))).setCell ⟨gb210, 3, none⟩ (.int .i64 ((rd_T79 l0_1 x6_1).f2.f1))).setCell ⟨gb210, 4, none⟩ (.int .i64 ((rd_T79 l0_1 x6_1).f2.f2))).setCell ⟨gb210, 5, none⟩ (.int .i64 ((rd_T79 l0_1 x6_1).f2.f3))).setCell ⟨gb210, 6, none⟩ (.int .i64 ((rd_T79 l0_1 x6_1).f3))).setCell ⟨gb210, 7, none⟩ (.int .i64 ((rd_T79 l0_1 x6_1).f4))).setCell ⟨gb210, 8, none⟩ (.int .i64 ((rd_T79 l0_1 x6_1).f5))).setCell ⟨gb210, 9, none⟩ (.int .i64 ((rd_T79 l0_1 x6_1).f6))).setCell ⟨gb210, 10, none⟩ (.bool ((rd_T79 l0_1 x6_1).f7))) w.heap.size (fun k_ => k_ ≠ gb210) u206001 x206001_1) := ⟨kr (Kd.R_mono (kF (p := ⟨gb210, 10, none⟩) (kF (p := ⟨gb210, 9, none⟩) (kF (p := ⟨gb210, 8, none⟩) (kF (p := ⟨gb210, 7, none⟩) (kF (p := ⟨gb210, 6, none⟩) (kF (p := ⟨gb210, 5, none⟩) (kF (p := ⟨gb210, 4, none⟩) (kF (p := ⟨gb210, 3, none⟩) (kF (p := ⟨gb210, 2, none⟩) (kF (p := ⟨gb210, 1, none⟩) (kF (p := ⟨gb210, 0, none⟩) (Kd.R_mono HO_206001.out (fun k_ hk => (⟨hk, hk.2⟩ : _ ∧ k_ ≠ gb210))) (fun _ hk => hk.2) (.bool ((rd_T79 l0_1 x6_1).f0))) (fun _ hk => hk.2) (.bool (true))) (fun _ hk => hk.2) (.int .i64 ((rd_T79 l0_1 x6_1).f2.f0))) (fun _ hk => hk.2) (.int .i64 ((rd_T79 l0_1 x6_1).f2.f1))) (fun _ hk => hk.2) (.int .i64 ((rd_T79 l0_1 x6_1).f2.f2))) (fun _ hk => hk.2) (.int .i64 ((rd_T79 l0_1 x6_1).f2.f3))) (fun _ hk => hk.2) (.int .i64 ((rd_T79 l0_1 x6_1).f3))) (fun _ hk => hk.2) (.int .i64 ((rd_T79 l0_1 x6_1).f4))) (fun _ hk => hk.2) (.int .i64 ((rd_T79 l0_1 x6_1).f5))) (fun _ hk => hk.2) (.int .i64 ((rd_T79 l0_1 x6_1).f6))) (fun _ hk => hk.2) (.bool ((rd_T79 l0_1 x6_1).f7))) (fun _ hk => hk.1.2))⟩
    have n1_ : Aside0 ((((((((((((w52.setCell ⟨gb210, 0, none⟩ (.bool ((rd_T79 l0_1 x6_1).f0))).setCell ⟨gb210, 1, none⟩ (.bool (true))).setCell ⟨gb210, 2, none⟩ (.int .i64 ((rd_T79 l0_1 x6_1).f2.f0))).setCell ⟨gb210, 3, none⟩ (.int .i64 ((rd_T79 l0_1 x6_1).f2.f1))).setCell ⟨gb210, 4, none⟩ (.int .i64 ((rd_T79 l0_1 x6_1).f2.f2))).setCell ⟨gb210, 5, none⟩ (.int .i64 ((rd_T79 l0_1 x6_1).f2.f3))).setCell ⟨gb210, 6, none⟩ (.int .i64 ((rd_T79 l0_1 x6_1).f3))).setCell ⟨gb210, 7, none⟩ (.int .i64 ((rd_T79 l0_1 x6_1).f4))).setCell ⟨gb210, 8, none⟩ (.int .i64 ((rd_T79 l0_1 x6_1).f5))).setCell ⟨gb210, 9, none⟩ (.int .i64 ((rd_T79 l0_1 x6_1).f6))).setCell ⟨gb210, 10, none⟩ (.bool ((rd_T79 l0_1 x6_1).f7))).heap[gb199]? = some (.cells #[.int .i64 a0_0, .slice (some ad209) l0_1.length c0_1] 28 (0, 0))) := ⟨by (with_reducible repeat (first | refine blk_drewN ?_ _ | refine blk_drew ?_ | refine blk_alloc ?_ _)); refine blk_far ?_ NB199_210.out _; (with_reducible repeat (first | refine blk_drewN ?_ _ | refine blk_drew ?_ | refine blk_alloc ?_ _)); refine blk_far ?_ NB199_210.out _; (with_reducible repeat (first | refine blk_drewN ?_ _ | refine blk_drew ?_ | refine blk_alloc ?_ _)); refine blk_far ?_ NB199_210.out _; (with_reducible repeat (first | refine blk_drewN ?_ _ | refine blk_drew ?_ | refine blk_alloc ?_ _)); refine blk_far ?_ NB199_210.out _; (with_reducible repeat (first | refine blk_drewN ?_ _ | refine blk_drew ?_ | refine blk_alloc ?_ _)); refine blk_far ?_ NB199_210.out _; (with_reducible repeat (first | refine blk_drewN ?_ _ | refine blk_drew ?_ | refine blk_alloc ?_ _)); refine blk_far ?_ NB199_210.out _; (with_reducible repeat (first | refine blk_drewN ?_ _ | refine blk_drew ?_ | refine blk_alloc ?_ _)); refine blk_far ?_ NB199_210.out _; (with_reducible repeat (first | refine blk_drewN ?_ _ | refine blk_drew ?_ | refine blk_alloc ?_ _)); refine blk_far ?_ NB199_210.out _; (with_reducible repeat (first | refine blk_drewN ?_ _ | refine blk_drew ?_ | refine blk_alloc ?_ _)); refine blk_far ?_ NB199_210.out _; (with_reducible repeat (first | refine blk_drewN ?_ _ | refine blk_drew ?_ | refine blk_alloc ?_ _)); refine blk_far ?_ NB199_210.out _; (with_reducible repeat (first | refine blk_drewN ?_ _ | refine blk_drew ?_ | refine blk_alloc ?_ _)); refine blk_far ?_ NB199_210.out _; (with_reducible repeat (first | refine blk_drewN ?_ _ | refine blk_drew ?_ | refine blk_alloc ?_ _)); exact BK199.out⟩
    have n2_ : Aside0 ((((((((((((w52.setCell ⟨gb210, 0, none⟩ (.bool ((rd_T79 l0_1 x6_1).f0))).setCell ⟨gb210, 1, none⟩ (.bool (true))).setCell ⟨gb210, 2, none⟩ (.int .i64 ((rd_T79 l0_1 x6_1).f2.f0))).setCell ⟨gb210, 3, none⟩ (.int .i64 ((rd_T79 l0_1 x6_1).f2.f1))).setCell ⟨gb210, 4, none⟩ (.int .i64 ((rd_T79 l0_1 x6_1).f2.f2))).setCell ⟨gb210, 5, none⟩ (.int .i64 ((rd_T79 l0_1 x6_1).f2.f3))).setCell ⟨gb210, 6, none⟩ (.int .i64 ((rd_T79 l0_1 x6_1).f3))).setCell ⟨gb210, 7, none⟩ (.int .i64 ((rd_T79 l0_1 x6_1).f4))).setCell ⟨gb210, 8, none⟩ (.int .i64 ((rd_T79 l0_1 x6_1).f5))).setCell ⟨gb210, 9, none⟩ (.int .i64 ((rd_T79 l0_1 x6_1).f6))).setCell ⟨gb210, 10, none⟩ (.bool ((rd_T79 l0_1 x6_1).f7))).heap[gb200]? = some (.cells #[.int .i64 0, .slice none 0 0] 28 (0, 0))) := ⟨by (with_reducible repeat (first | refine blk_drewN ?_ _ | refine blk_drew ?_ | refine blk_alloc ?_ _)); refine blk_far ?_ NB200_210.out _; (with_reducible repeat (first | refine blk_drewN ?_ _ | refine blk_drew ?_ | refine blk_alloc ?_ _)); refine blk_far ?_ NB200_210.out _; (with_reducible repeat (first | refine blk_drewN ?_ _ | refine blk_drew ?_ | refine blk_alloc ?_ _)); refine blk_far ?_ NB200_210.out _; (with_reducible repeat (first | refine blk_drewN ?_ _ | refine blk_drew ?_ | refine blk_alloc ?_ _)); refine blk_far ?_ NB200_210.out _; (with_reducible repeat (first | refine blk_drewN ?_ _ | refine blk_drew ?_ | refine blk_alloc ?_ _)); refine blk_far ?_ NB200_210.out _; (with_reducible repeat (first | refine blk_drewN ?_ _ | refine blk_drew ?_ | refine blk_alloc ?_ _)); refine blk_far ?_ NB200_210.out _; (with_reducible repeat (first | refine blk_drewN ?_ _ | refine blk_drew ?_ | refine blk_alloc ?_ _)); refine blk_far ?_ NB200_210.out _; (with_reducible repeat (first | refine blk_drewN ?_ _ | refine blk_drew ?_ | refine blk_alloc ?_ _)); refine blk_far ?_ NB200_210.out _; (with_reducible repeat (first | refine blk_drewN ?_ _ | refine blk_drew ?_ | refine blk_alloc ?_ _)); refine blk_far ?_ NB200_210.out _; (with_reducible repeat (first | refine blk_drewN ?_ _ | refine blk_drew ?_ | refine blk_alloc ?_ _)); refine blk_far ?_ NB200_210.out _; (with_reducible repeat (first | refine blk_drewN ?_ _ | refine blk_drew ?_ | refine blk_alloc ?_ _)); refine blk_far ?_ NB200_210.out _; (with_reducible repeat (first | refine blk_drewN ?_ _ | refine blk_drew ?_ | refine blk_alloc ?_ _)); exact BK200.out⟩
    have n3_ : Aside0 ((((((((((((w52.setCell ⟨gb210, 0, none⟩ (.bool ((rd_T79 l0_1 x6_1).f0))).setCell ⟨gb210, 1, none⟩ (.bool (true))).setCell ⟨gb210, 2, none⟩ (.int .i64 ((rd_T79 l0_1 x6_1).f2.f0))).setCell ⟨gb210, 3, none⟩ (.int .i64 ((rd_T79 l0_1 x6_1).f2.f1))).setCell ⟨gb210, 4, none⟩ (.int .i64 ((rd_T79 l0_1 x6_1).f2.f2))).setCell ⟨gb210, 5, none⟩ (.int .i64 ((rd_T79 l0_1 x6_1).f2.f3))).setCell ⟨gb210, 6, none⟩ (.int .i64 ((rd_T79 l0_1 x6_1).f3))).setCell ⟨gb210, 7, none⟩ (.int .i64 ((rd_T79 l0_1 x6_1).f4))).setCell ⟨gb210, 8, none⟩ (.int .i64 ((rd_T79 l0_1 x6_1).f5))).setCell ⟨gb210, 9, none⟩ (.int .i64 ((rd_T79 l0_1 x6_1).f6))).setCell ⟨gb210, 10, none⟩ (.bool ((rd_T79 l0_1 x6_1).f7))).heap[gb205]? = some (.cells #[.int .i64 t201, u206001] 28 (0, 0))) := ⟨by (with_reducible repeat (first | refine blk_drewN ?_ _ | refine blk_drew ?_ | refine blk_alloc ?_ _)); refine blk_far ?_ NB205_210.out _; (with_reducible repeat (first | refine blk_drewN ?_ _ | refine blk_drew ?_ | refine blk_alloc ?_ _)); refine blk_far ?_ NB205_210.out _; (with_reducible repeat (first | refine blk_drewN ?_ _ | refine blk_drew ?_ | refine blk_alloc ?_ _)); refine blk_far ?_ NB205_210.out _; (with_reducible repeat (first | refine blk_drewN ?_ _ | refine blk_drew ?_ | refine blk_alloc ?_ _)); refine blk_far ?_ NB205_210.out _; (with_reducible repeat (first | refine blk_drewN ?_ _ | refine blk_drew ?_ | refine blk_alloc ?_ _)); refine blk_far ?_ NB205_210.out _; (with_reducible repeat (first | refine blk_drewN ?_ _ | refine blk_drew ?_ | refine blk_alloc ?_ _)); refine blk_far ?_ NB205_210.out _; (with_reducible repeat (first | refine blk_drewN ?_ _ | refine blk_drew ?_ | refine blk_alloc ?_ _)); refine blk_far ?_ NB205_210.out _; (with_reducible repeat (first | refine blk_drewN ?_ _ | refine blk_drew ?_ | refine blk_alloc ?_ _)); refine blk_far ?_ NB205_210.out _; (with_reducible repeat (first | refine blk_drewN ?_ _ | refine blk_drew ?_ | refine blk_alloc ?_ _)); refine blk_far ?_ NB205_210.out _; (with_reducible repeat (first | refine blk_drewN ?_ _ | refine blk_drew ?_ | refine blk_alloc ?_ _)); refine blk_far ?_ NB205_210.out _; (with_reducible repeat (first | refine blk_drewN ?_ _ | refine blk_drew ?_ | refine blk_alloc ?_ _)); refine blk_far ?_ NB205_210.out _; (with_reducible repeat (first | refine blk_drewN ?_ _ | refine blk_drew ?_ | refine blk_alloc ?_ _)); exact BK205.out⟩
    have n4_ : Aside0 ((((((((((((w52.setCell ⟨gb210, 0, none⟩ (.bool ((rd_T79 l0_1 x6_1).f0))).setCell ⟨gb210, 1, none⟩ (.bool (true))).setCell ⟨gb210, 2, none⟩ (.int .i64 ((rd_T79 l0_1 x6_1).f2.f0))).setCell ⟨gb210, 3, none⟩ (.int .i64 ((rd_T79 l0_1 x6_1).f2.f1))).setCell ⟨gb210, 4, none⟩ (.int .i64 ((rd_T79 l0_1 x6_1).f2.f2))).setCell ⟨gb210, 5, none⟩ (.int .i64 ((rd_T79 l0_1 x6_1).f2.f3))).setCell ⟨gb210, 6, none⟩ (.int .i64 ((rd_T79 l0_1 x6_1).f3))).setCell ⟨gb210, 7, none⟩ (.int .i64 ((rd_T79 l0_1 x6_1).f4))).setCell ⟨gb210, 8, none⟩ (.int .i64 ((rd_T79 l0_1 x6_1).f5))).setCell ⟨gb210, 9, none⟩ (.int .i64 ((rd_T79 l0_1 x6_1).f6))).setCell ⟨gb210, 10, none⟩ (.bool ((rd_T79 l0_1 x6_1).f7))).heap[gb210]? = some (.cells #[.bool ((rd_T79 l0_1 x6_1).f0), .bool true, .int .i64 ((rd_T79 l0_1 x6_1).f2.f0), .int .i64 ((rd_T79 l0_1 x6_1).f2.f1), .int .i64 ((rd_T79 l0_1 x6_1).f2.f2), .int .i64 ((rd_T79 l0_1 x6_1).f2.f3), .int .i64 ((rd_T79 l0_1 x6_1).f3), .int .i64 ((rd_T79 l0_1 x6_1).f4), .int .i64 ((rd_T79 l0_1 x6_1).f5), .int .i64 ((rd_T79 l0_1 x6_1).f6), .bool ((rd_T79 l0_1 x6_1).f7)] 79 (0, 0))) := ⟨by (with_reducible repeat (first | refine blk_drewN ?_ _ | refine blk_drew ?_ | refine blk_alloc ?_ _)); refine blk_put (cs := #[.bool ((rd_T79 l0_1 x6_1).f0), .bool (true), .int .i64 ((rd_T79 l0_1 x6_1).f2.f0), .int .i64 ((rd_T79 l0_1 x6_1).f2.f1), .int .i64 ((rd_T79 l0_1 x6_1).f2.f2), .int .i64 ((rd_T79 l0_1 x6_1).f2.f3), .int .i64 ((rd_T79 l0_1 x6_1).f3), .int .i64 ((rd_T79 l0_1 x6_1).f4), .int .i64 ((rd_T79 l0_1 x6_1).f5), .int .i64 ((rd_T79 l0_1 x6_1).f6), .bool false]) ?_ 10 _ rfl; (with_reducible repeat (first | refine blk_drewN ?_ _ | refine blk_drew ?_ | refine blk_alloc ?_ _)); refine blk_put (cs := #[.bool ((rd_T79 l0_1 x6_1).f0), .bool (true), .int .i64 ((rd_T79 l0_1 x6_1).f2.f0), .int .i64 ((rd_T79 l0_1 x6_1).f2.f1), .int .i64 ((rd_T79 l0_1 x6_1).f2.f2), .int .i64 ((rd_T79 l0_1 x6_1).f2.f3), .int .i64 ((rd_T79 l0_1 x6_1).f3), .int .i64 ((rd_T79 l0_1 x6_1).f4), .int .i64 ((rd_T79 l0_1 x6_1).f5), .int .i64 0, .bool false]) ?_ 9 _ rfl; (with_reducible repeat (first | refine blk_drewN ?_ _ | refine blk_drew ?_ | refine blk_alloc ?_ _)); refine blk_put (cs := #[.bool ((rd_T79 l0_1 x6_1).f0), .bool (true), .int .i64 ((rd_T79 l0_1 x6_1).f2.f0), .int .i64 ((rd_T79 l0_1 x6_1).f2.f1), .int .i64 ((rd_T79 l0_1 x6_1).f2.f2), .int .i64 ((rd_T79 l0_1 x6_1).f2.f3), .int .i64 ((rd_T79 l0_1 x6_1).f3), .int .i64 ((rd_T79 l0_1 x6_1).f4), .int .i64 0, .int .i64 0, .bool false]) ?_ 8 _ rfl; (with_reducible repeat (first | refine blk_drewN ?_ _ | refine blk_drew ?_ | refine blk_alloc ?_ _)); refine blk_put (cs := #[.bool ((rd_T79 l0_1 x6_1).f0), .bool (true), .int .i64 ((rd_T79 l0_1 x6_1).f2.f0), .int .i64 ((rd_T79 l0_1 x6_1).f2.f1), .int .i64 ((rd_T79 l0_1 x6_1).f2.f2), .int .i64 ((rd_T79 l0_1 x6_1).f2.f3), .int .i64 ((rd_T79 l0_1 x6_1).f3), .int .i64 0, .int .i64 0, .int .i64 0, .bool false]) ?_ 7 _ rfl; (with_reducible repeat (first | refine blk_drewN ?_ _ | refine blk_drew ?_ | refine blk_alloc ?_ _)); refine blk_put (cs := #[.bool ((rd_T79 l0_1 x6_1).f0), .bool (true), .int .i64 ((rd_T79 l0_1 x6_1).f2.f0), .int .i64 ((rd_T79 l0_1 x6_1).f2.f1), .int .i64 ((rd_T79 l0_1 x6_1).f2.f2), .int .i64 ((rd_T79 l0_1 x6_1).f2.f3), .int .i64 0, .int .i64 0, .int .i64 0, .int .i64 0, .bool false]) ?_ 6 _ rfl; (with_reducible repeat (first | refine blk_drewN ?_ _ | refine blk_drew ?_ | refine blk_alloc ?_ _)); refine blk_put (cs := #[.bool ((rd_T79 l0_1 x6_1).f0), .bool (true), .int .i64 ((rd_T79 l0_1 x6_1).f2.f0), .int .i64 ((rd_T79 l0_1 x6_1).f2.f1), .int .i64 ((rd_T79 l0_1 x6_1).f2.f2), .int .i64 0, .int .i64 0, .int .i64 0, .int .i64 0, .int .i64 0, .bool false]) ?_ 5 _ rfl; (with_reducible repeat (first | refine blk_drewN ?_ _ | refine blk_drew ?_ | refine blk_alloc ?_ _)); refine blk_put (cs := #[.bool ((rd_T79 l0_1 x6_1).f0), .bool (true), .int .i64 ((rd_T79 l0_1 x6_1).f2.f0), .int .i64 ((rd_T79 l0_1 x6_1).f2.f1), .int .i64 0, .int .i64 0, .int .i64 0, .int .i64 0, .int .i64 0, .int .i64 0, .bool false]) ?_ 4 _ rfl; (with_reducible repeat (first | refine blk_drewN ?_ _ | refine blk_drew ?_ | refine blk_alloc ?_ _)); refine blk_put (cs := #[.bool ((rd_T79 l0_1 x6_1).f0), .bool (true), .int .i64 ((rd_T79 l0_1 x6_1).f2.f0), .int .i64 0, .int .i64 0, .int .i64 0, .int .i64 0, .int .i64 0, .int .i64 0, .int .i64 0, .bool false]) ?_ 3 _ rfl; (with_reducible repeat (first | refine blk_drewN ?_ _ | refine blk_drew ?_ | refine blk_alloc ?_ _)); refine blk_put (cs := #[.bool ((rd_T79 l0_1 x6_1).f0), .bool (true), .int .i64 0, .int .i64 0, .int .i64 0, .int .i64 0, .int .i64 0, .int .i64 0, .int .i64 0, .int .i64 0, .bool false]) ?_ 2 _ rfl; (with_reducible repeat (first | refine blk_drewN ?_ _ | refine blk_drew ?_ | refine blk_alloc ?_ _)); refine blk_put (cs := #[.bool ((rd_T79 l0_1 x6_1).f0), .bool false, .int .i64 0, .int .i64 0, .int .i64 0, .int .i64 0, .int .i64 0, .int .i64 0, .int .i64 0, .int .i64 0, .bool false]) ?_ 1 _ rfl; (with_reducible repeat (first | refine blk_drewN ?_ _ | refine blk_drew ?_ | refine blk_alloc ?_ _)); refine blk_put (cs := #[.bool false, .bool false, .int .i64 0, .int .i64 0, .int .i64 0, .int .i64 0, .int .i64 0, .int .i64 0, .int .i64 0, .int .i64 0, .bool false]) ?_ 0 _ rfl; (with_reducible repeat (first | refine blk_drewN ?_ _ | refine blk_drew ?_ | refine blk_alloc ?_ _)); exact BK210.out⟩
    have n5_ : Aside0 (Below w.heap.size w (((((((((((w52.setCell ⟨gb210, 0, none⟩ (.bool ((rd_T79 l0_1 x6_1).f0))).setCell ⟨gb210, 1, none⟩ (.bool (true))).setCell ⟨gb210, 2, none⟩ (.int .i64 ((rd_T79 l0_1 x6_1).f2.f0))).setCell ⟨gb210, 3, none⟩ (.int .i64 ((rd_T79 l0_1 x6_1).f2.f1))).setCell ⟨gb210, 4, none⟩ (.int .i64 ((rd_T79 l0_1 x6_1).f2.f2))).setCell ⟨gb210, 5, none⟩ (.int .i64 ((rd_T79 l0_1 x6_1).f2.f3))).setCell ⟨gb210, 6, none⟩ (.int .i64 ((rd_T79 l0_1 x6_1).f3))).setCell ⟨gb210, 7, none⟩ (.int .i64 ((rd_T79 l0_1 x6_1).f4))).setCell ⟨gb210, 8, none⟩ (.int .i64 ((rd_T79 l0_1 x6_1).f5))).setCell ⟨gb210, 9, none⟩ (.int .i64 ((rd_T79 l0_1 x6_1).f6))).setCell ⟨gb210, 10, none⟩ (.bool ((rd_T79 l0_1 x6_1).f7)))) := ⟨bl HB.out⟩
    (try clear HO_206001)
    (try clear BK199)
    (try clear BK200)
    (try clear BK205)
    (try clear BK210)
    (try clear HB)
    generalize (((((((((((w52.setCell ⟨gb210, 0, none⟩ (.bool ((rd_T79 l0_1 x6_1).f0))).setCell ⟨gb210, 1, none⟩ (.bool (true))).setCell ⟨gb210, 2, none⟩ (.int .i64 ((rd_T79 l0_1 x6_1).f2.f0))).setCell ⟨gb210, 3, none⟩ (.int .i64 ((rd_T79 l0_1 x6_1).f2.f1))).setCell ⟨gb210, 4, none⟩ (.int .i64 ((rd_T79 l0_1 x6_1).f2.f2))).setCell ⟨gb210, 5, none⟩ (.int .i64 ((rd_T79 l0_1 x6_1).f2.f3))).setCell ⟨gb210, 6, none⟩ (.int .i64 ((rd_T79 l0_1 x6_1).f3))).setCell ⟨gb210, 7, none⟩ (.int .i64 ((rd_T79 l0_1 x6_1).f4))).setCell ⟨gb210, 8, none⟩ (.int .i64 ((rd_T79 l0_1 x6_1).f5))).setCell ⟨gb210, 9, none⟩ (.int .i64 ((rd_T79 l0_1 x6_1).f6))).setCell ⟨gb210, 10, none⟩ (.bool ((rd_T79 l0_1 x6_1).f7))) = w61 at n0_ n1_ n2_ n3_ n4_ n5_ ⊢
    have HO_206001 := n0_
    have BK199 := n1_
    have BK200 := n2_
    have BK205 := n3_
    have BK210 := n4_
    have HB := n5_
    clear n0_ n1_ n2_ n3_ n4_ n5_
    have n0_ := aM (Kd.R_drew HO_206001.out)
    have n1_ := aM (blk_drew BK199.out)
    have n2_ := aM (blk_drew BK200.out)
    have n3_ := aM (blk_drew BK205.out)
    have n4_ := aM (blk_drew BK210.out)
    have n5_ := aM (below_drew1 HB.out)
    clear HO_206001 BK199
    clear BK200 BK205
    clear BK210 HB
    have HO_206001 := n0_
    have BK199 := n1_
    have BK200 := n2_
    have BK205 := n3_
    have BK210 := n4_
    have HB := n5_
    clear n0_ n1_ n2_ n3_ n4_ n5_
    refine start_ (n := 10) (S := fun w' => w'.cell? ⟨gb210, 0, none⟩ = some (.bool ((rd_T79 l0_1 x6_1).f0)) ∧ w'.cell? ⟨gb210, 1, none⟩ = some (.bool true) ∧ w'.cell? ⟨gb210, 2, none⟩ = some (.int .i64 ((rd_T79 l0_1 x6_1).f2.f0)) ∧ w'.cell? ⟨gb210, 3, none⟩ = some (.int .i64 ((rd_T79 l0_1 x6_1).f2.f1)) ∧ w'.cell? ⟨gb210, 4, none⟩ = some (.int .i64 ((rd_T79 l0_1 x6_1).f2.f2)) ∧ w'.cell? ⟨gb210, 5, none⟩ = some (.int .i64 ((rd_T79 l0_1 x6_1).f2.f3)) ∧ w'.cell? ⟨gb210, 6, none⟩ = some (.int .i64 ((rd_T79 l0_1 x6_1).f3)) ∧ w'.cell? ⟨gb210, 7, none⟩ = some (.int .i64 ((rd_T79 l0_1 x6_1).f4)) ∧ w'.cell? ⟨gb210, 8, none⟩ = some (.int .i64 ((rd_T79 l0_1 x6_1).f5)) ∧ w'.cell? ⟨gb210, 9, none⟩ = some (.int .i64 ((rd_T79 l0_1 x6_1).f6)) ∧ w'.cell? ⟨gb210, 10, none⟩ = some (.bool ((rd_T79 l0_1 x6_1).f7)) ∧ w'.cell? ⟨gb199, 0, none⟩ = some (.int .i64 a0_0) ∧ w'.cell? ⟨gb199, 1, none⟩ = some (.slice (some ad209) l0_1.length c0_1)) (ds := []) (dn 10 0) (by kernel_rfl) rfl rfl ⟨cI BK210.out 0, cI BK210.out 1, cI BK210.out 2, cI BK210.out 3, cI BK210.out 4, cI BK210.out 5, cI BK210.out 6, cI BK210.out 7, cI BK210.out 8, cI BK210.out 9, cI BK210.out 10, cI BK199.out 0, cI BK199.out 1⟩ (fun hHeld => ?_); refine with_tabW spec_Decide.tab12 spec_Decide.bits12 (fun HT_ HW_ => ?_)
    generalize w61.drew = w62 at HO_206001 BK199 BK200 BK205 BK210 HB hHeld ⊢
    refine nY (N := some 35) HT_ ?_
    refine tY (N := some 36) HT_ HW_ hHeld ?_
    refine nY (N := some 37) HT_ ?_
    refine nY (N := some 38) HT_ ?_
    refine pure_ (i := 6) (N := some 41) (v := ?_) (a' := ?_) #[Y,Y,Y,Y,U,U,Y,U,U,U] rfl rfl (any_of HT_.out (by kernel_rfl)) (fun _ _ _ h => h) (Or.inl ⟨by rfl, ?_⟩) ?_ ?_
    rotate_left
    ·intro w'
     go_simp
     with_reducible rfl
    rotate_left
    ·simp only [Act.put, sA, sZ, sS, i64_w, i32_w]
     rfl
    refine take_ (i := 4) (N := some 39) (v := ?_) (a' := ?_) #[Y,Y,Y,Y,Y,U,Y,U,U,U] rfl rfl (take_ofW HT_.out HW_.out (by kernel_rfl)) (fun _ _ _ h => h) (Or.inl ⟨by rfl, ?_⟩) hHeld ?_ ?_
    rotate_left
    ·rintro w' ⟨s0, s1, s2, s3, s4, s5, s6, s7, s8, s9, s10, s11, s12⟩
     go_simp
     with_reducible rfl
    rotate_left
    ·simp only [Act.put, sA, sZ, sS, i64_w, i32_w]
     rfl
    refine take_ (i := 5) (N := some 40) (v := ?_) (a' := ?_) #[Y,Y,Y,Y,Y,Y,Y,U,U,U] rfl rfl (take_ofW HT_.out HW_.out (by kernel_rfl)) (fun _ _ _ h => h) (Or.inl ⟨by rfl, ?_⟩) hHeld ?_ ?_
    rotate_left
    ·rintro w' ⟨s0, s1, s2, s3, s4, s5, s6, s7, s8, s9, s10, s11, s12⟩
     go_simp
     with_reducible rfl
    rotate_left
    ·simp only [Act.put, sA, sZ, sS, i64_w, i32_w]
     rfl
    refine one_ (i := 7) (N := some 42) #[Y,Y,Y,Y,Y,Y,Y,Y,U,U] rfl rfl (one_of HT_.out (by kernel_rfl)) (by decide) (fun K hK => ?_)
    refine goes_ Try.func41 (by kernel_rfl) rfl #[.agg #[.int .i64 a0_0, .slice (some ad209) l0_1.length c0_1], .int .i64 x6_1] (by rfl) rfl rfl xR ?_
    with_reducible refine (spec_Own.calls k1 a0_0 _ _ l0_1 x6_1 t223 t224 t225 t226 _ ?side1 ?side2 A59.out).mono ?_
    (case side1 => repeat (first | exact (cB HR0_1.out HB.out) | (with_reducible refine Kd.C_alloc ?_ _) | (with_reducible refine Kd.C_drewN ?_ _) | (with_reducible refine Kd.C_drew ?_)))
    (case side2 => exact HC0_1.out)
    rintro e w63 ⟨rfl, hb⟩
    refine ⟨_, rfl, ?_⟩
    have n0_ := aM (kB (kr HO_206001.out) hb)
    have n1_ := aM (bB (g := gb199) (o := .cells #[.int .i64 a0_0, .slice (some ad209) l0_1.length c0_1] 28 (0, 0)) (bk BK199.out) hb)
    have n2_ := aM (bB (g := gb200) (o := .cells #[.int .i64 0, .slice none 0 0] 28 (0, 0)) (bk BK200.out) hb)
    have n3_ := aM (bB (g := gb205) (o := .cells #[.int .i64 t201, u206001] 28 (0, 0)) (bk BK205.out) hb)
    have n4_ := aM (bB (g := gb210) (o := .cells #[.bool ((rd_T79 l0_1 x6_1).f0), .bool true, .int .i64 ((rd_T79 l0_1 x6_1).f2.f0), .int .i64 ((rd_T79 l0_1 x6_1).f2.f1), .int .i64 ((rd_T79 l0_1 x6_1).f2.f2), .int .i64 ((rd_T79 l0_1 x6_1).f2.f3), .int .i64 ((rd_T79 l0_1 x6_1).f3), .int .i64 ((rd_T79 l0_1 x6_1).f4), .int .i64 ((rd_T79 l0_1 x6_1).f5), .int .i64 ((rd_T79 l0_1 x6_1).f6), .bool ((rd_T79 l0_1 x6_1).f7)] 79 (0, 0)) (bk BK210.out) hb)
    have n5_ := aM (bS (bl HB.out) hb)
    clear HO_206001 BK199
    clear BK200 BK205
    clear BK210 HB
    have HO_206001 := n0_
    have BK199 := n1_
    have BK200 := n2_
    have BK205 := n3_
    have BK210 := n4_
    have HB := n5_
    clear n0_ n1_ n2_ n3_ n4_ n5_
    (try clear hb)
    (try clear hb2)
    (try clear hk)
    (try clear hi)
    refine hK.out _ _ ⟨cI BK210.out 0, cI BK210.out 1, cI BK210.out 2, cI BK210.out 3, cI BK210.out 4, cI BK210.out 5, cI BK210.out 6, cI BK210.out 7, cI BK210.out 8, cI BK210.out 9, cI BK210.out 10, cI BK199.out 0, cI BK199.out 1⟩ (fun hHeld => ?_)
    clear hK K
    refine norm_ (a' := ?_) ?_ ?_
    rotate_left
    ·show Act.put _ (some 42) _ = _
     simp only [Act.put, sA, sZ, sS, i64_w, i32_w]
     rfl
    refine one_ (i := 8) (N := some 43) #[Y,Y,Y,Y,Y,Y,Y,Y,Y,U] rfl rfl (one_of HT_.out (by kernel_rfl)) (by decide) (fun K hK => ?_)
    refine goes_ Try.func68 (by kernel_rfl) rfl #[.agg #[.int .i64 ((rd_T79 l0_1 x6_1).f2.f0), .int .i64 ((rd_T79 l0_1 x6_1).f2.f1), .int .i64 ((rd_T79 l0_1 x6_1).f2.f2), .int .i64 ((rd_T79 l0_1 x6_1).f2.f3)], .agg #[.int .i64 t223, .int .i64 t224, .int .i64 t225, .int .i64 t226]] (by rfl) rfl rfl xR ?_
    with_reducible refine (spec_Better.calls ((rd_T79 l0_1 x6_1).f2.f0) ((rd_T79 l0_1 x6_1).f2.f1) ((rd_T79 l0_1 x6_1).f2.f2) ((rd_T79 l0_1 x6_1).f2.f3) t223 t224 t225 t226 t227 _ A60.out).mono ?_
    rintro e w64 ⟨rfl, hb⟩
    refine ⟨_, rfl, ?_⟩
    have n0_ := aM (kB (kr HO_206001.out) hb)
    have n1_ := aM (bB (g := gb199) (o := .cells #[.int .i64 a0_0, .slice (some ad209) l0_1.length c0_1] 28 (0, 0)) (bk BK199.out) hb)
    have n2_ := aM (bB (g := gb200) (o := .cells #[.int .i64 0, .slice none 0 0] 28 (0, 0)) (bk BK200.out) hb)
    have n3_ := aM (bB (g := gb205) (o := .cells #[.int .i64 t201, u206001] 28 (0, 0)) (bk BK205.out) hb)
    have n4_ := aM (bB (g := gb210) (o := .cells #[.bool ((rd_T79 l0_1 x6_1).f0), .bool true, .int .i64 ((rd_T79 l0_1 x6_1).f2.f0), .int .i64 ((rd_T79 l0_1 x6_1).f2.f1), .int .i64 ((rd_T79 l0_1 x6_1).f2.f2), .int .i64 ((rd_T79 l0_1 x6_1).f2.f3), .int .i64 ((rd_T79 l0_1 x6_1).f3), .int .i64 ((rd_T79 l0_1 x6_1).f4), .int .i64 ((rd_T79 l0_1 x6_1).f5), .int .i64 ((rd_T79 l0_1 x6_1).f6), .bool ((rd_T79 l0_1 x6_1).f7)] 79 (0, 0)) (bk BK210.out) hb)
    have n5_ := aM (bS (bl HB.out) hb)
    clear HO_206001 BK199
    clear BK200 BK205
    clear BK210 HB
    have HO_206001 := n0_
    have BK199 := n1_
    have BK200 := n2_
    have BK205 := n3_
    have BK210 := n4_
    have HB := n5_
    clear n0_ n1_ n2_ n3_ n4_ n5_
    (try clear hb)
    (try clear hb2)
    (try clear hk)
    (try clear hi)
    refine hK.out _ _ ⟨cI BK210.out 0, cI BK210.out 1, cI BK210.out 2, cI BK210.out 3, cI BK210.out 4, cI BK210.out 5, cI BK210.out 6, cI BK210.out 7, cI BK210.out 8, cI BK210.out 9, cI BK210.out 10, cI BK199.out 0, cI BK199.out 1⟩ (fun hHeld => ?_)
    clear hK K
    refine norm_ (a' := ?_) ?_ ?_
    rotate_left
    ·show Act.put _ (some 43) _ = _
     simp only [Act.put, sA, sZ, sS, i64_w, i32_w]
     rfl
    refine pure_ (i := 9) (N := some 44) (v := ?_) (a' := ?_) #[Y,Y,Y,Y,Y,Y,Y,Y,Y,Y] rfl rfl (any_of HT_.out (by kernel_rfl)) (fun _ _ _ h => h) (Or.inl ⟨by rfl, ?_⟩) ?_ ?_
    rotate_left
    ·intro w'
     go_simp
     with_reducible rfl
    rotate_left
    ·simp only [Act.put, sA, sZ, sS, i64_w, i32_w]
     rfl
    refine done_ (done_of HT_.out (by kernel_rfl)) ?_
    try go_wp2
    go_meet
    case rel => (try rw [← Nbq23.out]); (try rw [← Nbq57.out]); exact ⟨_, (t227), xE, H', ⟨by have := HK1.out; first | omega | exact Nat.le_refl _⟩, ⟨kr HO_206001.out⟩, ⟨by (with_reducible repeat (first | refine blk_drewN ?_ _ | refine blk_drew ?_ | refine blk_alloc ?_ _)); exact BK199.out⟩, ⟨by (with_reducible repeat (first | refine blk_drewN ?_ _ | refine blk_drew ?_ | refine blk_alloc ?_ _)); exact BK200.out⟩, ⟨by (with_reducible repeat (first | refine blk_drewN ?_ _ | refine blk_drew ?_ | refine blk_alloc ?_ _)); exact BK205.out⟩, ⟨by (with_reducible repeat (first | refine blk_drewN ?_ _ | refine blk_drew ?_ | refine blk_alloc ?_ _)); exact BK210.out⟩, ⟨bl HB.out⟩⟩
   case rest =>
    clear HC48
    try clear c2
    try clear p2
    try clear q2
    try clear hx2
    try clear hf2
    try clear c3
    try clear c4
    try clear c5
    try clear q5
    try clear c6
    try clear p6
    try clear p20
    try clear q20
    try clear hx20
    try clear c22
    try clear c22b0
    try clear c22b1
    try clear q23
    try clear c24
    try clear c26
    try clear c27
    try clear p27
    try clear q27
    try clear hx27
    try clear hf27
    try clear c28
    try clear c29
    try clear c32
    try clear c33
    try clear c34
    try clear c39
    try clear c40
    try clear c41
    try clear c44
    try clear c45
    try clear c46
    try clear c49
    try clear c50
    try clear c53
    try clear c54
    try clear c55
    try clear q57
    try clear c58
    try clear p64
    try clear hcz30_0
    try clear hcz30_1
    try clear hcz35_0
    try clear hcz35_1
    try clear hcz35_10
    try clear hcz35_2
    try clear hcz35_3
    try clear hcz35_4
    try clear hcz35_5
    try clear hcz35_6
    try clear hcz35_7
    try clear hcz35_8
    try clear hcz35_9
    try clear hcz42_0
    try clear hcz42_1
    try clear hcz47_0
    try clear hcz47_1
    try clear hcz47_10
    try clear hcz47_2
    try clear hcz47_3
    try clear hcz47_4
    try clear hcz47_5
    try clear hcz47_6
    try clear hcz47_7
    try clear hcz47_8
    try clear hcz47_9
    try clear hcz51_0
    try clear hcz51_1
    try clear hcz56_0
    try clear hcz56_1
    try clear hcz56_10
    try clear hcz56_2
    try clear hcz56_3
    try clear hcz56_4
    try clear hcz56_5
    try clear hcz56_6
    try clear hcz56_7
    try clear hcz56_8
    try clear hcz56_9
    try clear hfz30_0
    try clear hfz30_1
    try clear hfz35_0
    try clear hfz35_1
    try clear hfz35_10
    try clear hfz35_2
    try clear hfz35_3
    try clear hfz35_4
    try clear hfz35_5
    try clear hfz35_6
    try clear hfz35_7
    try clear hfz35_8
    try clear hfz35_9
    try clear hfz42_0
    try clear hfz42_1
    try clear hfz47_0
    try clear hfz47_1
    try clear hfz47_10
    try clear hfz47_2
    try clear hfz47_3
    try clear hfz47_4
    try clear hfz47_5
    try clear hfz47_6
    try clear hfz47_7
    try clear hfz47_8
    try clear hfz47_9
    try clear hfz51_0
    try clear hfz51_1
    try clear hfz56_0
    try clear hfz56_1
    try clear hfz56_10
    try clear hfz56_2
    try clear hfz56_3
    try clear hfz56_4
    try clear hfz56_5
    try clear hfz56_6
    try clear hfz56_7
    try clear hfz56_8
    try clear hfz56_9
    try clear hx209_0
    try clear hx209_1
    try clear hx209_10
    try clear hx209_2
    try clear hx209_3
    try clear hx209_4
    try clear hx209_5
    try clear hx209_6
    try clear hx209_7
    try clear hx209_8
    try clear hx209_9
    try clear hx27_0
    try clear hx27_1
    try clear hx27_10
    try clear hx27_2
    try clear hx27_3
    try clear hx27_4
    try clear hx27_5
    try clear hx27_6
    try clear hx27_7
    try clear hx27_8
    try clear hx27_9
    try clear p209
    try clear p27
    try clear q209
    try clear q27
    obtain ⟨kq, x44_47, rfl, HA, HJ47, HO_206001, BK199, BK200, BK205, BK210, HB⟩ := hcut
    cases kq with
    | zero => exact absurd HA.out (by simp [spec_Decide.j1])
    | succ kj47 =>
     have H := HA.out
     clear HA
     simp only [spec_Decide.j1] at H
     by_cases c67 : x44_47 = true
     case pos =>
      subst c67
      have H1 : (if ((rd_T79 l0_1 x6_1).f0) = true then ((spec_Turn.f kj47 ((rd_T79 l0_1 x6_1).f0) ((rd_T79 l0_1 x6_1).f1) ((rd_T79 l0_1 x6_1).f2.f0) ((rd_T79 l0_1 x6_1).f2.f1) ((rd_T79 l0_1 x6_1).f2.f2) ((rd_T79 l0_1 x6_1).f2.f3) ((rd_T79 l0_1 x6_1).f3) ((rd_T79 l0_1 x6_1).f4) ((rd_T79 l0_1 x6_1).f5) ((rd_T79 l0_1 x6_1).f6) ((rd_T79 l0_1 x6_1).f7) 3).bind fun bt228 => (if 0 ≤ x6_1 then (if x6_1 < (x206001_1.length : Int) then (spec_Decide.l0 kj47 t207 (wrap64 (x6_1 + 1)) a0_0 l0_1 t201 (x206001_1.set (x6_1 : Int).toNat (⟨bt228.1, bt228.2.1, (⟨bt228.2.2.1, bt228.2.2.2.1, bt228.2.2.2.2.1, bt228.2.2.2.2.2.1⟩ : S73), bt228.2.2.2.2.2.2.1, bt228.2.2.2.2.2.2.2.1, bt228.2.2.2.2.2.2.2.2.1, bt228.2.2.2.2.2.2.2.2.2.1, bt228.2.2.2.2.2.2.2.2.2.2⟩ : S79))) else (none)) else (none))) else (spec_Decide.l0 kj47 t207 (wrap64 (x6_1 + 1)) a0_0 l0_1 t201 x206001_1)) = some (r1, r2) := by rw [if_pos rfl] at H; exact H
      clear H
      have H := H1
      clear H1
      by_cases c68 : ((rd_T79 l0_1 x6_1).f0) = true
      case neg =>
       rw [if_neg c68] at H
       have c68b0 : ((rd_T79 l0_1 x6_1).f0) = false := by simpa using c68
       clear c68
       have H' := aM H
       clear H
       have hnb80 := NB210_199.out
       have hnc80 := NB199_210.out
       have hnb81 := NB210_200.out
       have hnc81 := NB200_210.out
       have hnb82 := NB210_205.out
       have hnc82 := NB205_210.out
       have hcz83_0 : wc.cell? ⟨gb210, 0, none⟩ = some (.bool ((rd_T79 l0_1 x6_1).f0)) := cI BK210.out 0
       have hcz83_1 : wc.cell? ⟨gb210, 1, none⟩ = some (.bool ((rd_T79 l0_1 x6_1).f1)) := cI BK210.out 1
       have hcz83_2 : wc.cell? ⟨gb210, 2, none⟩ = some (.int .i64 ((rd_T79 l0_1 x6_1).f2.f0)) := cI BK210.out 2
       have hcz83_3 : wc.cell? ⟨gb210, 3, none⟩ = some (.int .i64 ((rd_T79 l0_1 x6_1).f2.f1)) := cI BK210.out 3
       have hcz83_4 : wc.cell? ⟨gb210, 4, none⟩ = some (.int .i64 ((rd_T79 l0_1 x6_1).f2.f2)) := cI BK210.out 4
       have hcz83_5 : wc.cell? ⟨gb210, 5, none⟩ = some (.int .i64 ((rd_T79 l0_1 x6_1).f2.f3)) := cI BK210.out 5
       have hcz83_6 : wc.cell? ⟨gb210, 6, none⟩ = some (.int .i64 ((rd_T79 l0_1 x6_1).f3)) := cI BK210.out 6
       have hcz83_7 : wc.cell? ⟨gb210, 7, none⟩ = some (.int .i64 ((rd_T79 l0_1 x6_1).f4)) := cI BK210.out 7
       have hcz83_8 : wc.cell? ⟨gb210, 8, none⟩ = some (.int .i64 ((rd_T79 l0_1 x6_1).f5)) := cI BK210.out 8
       have hcz83_9 : wc.cell? ⟨gb210, 9, none⟩ = some (.int .i64 ((rd_T79 l0_1 x6_1).f6)) := cI BK210.out 9
       have hcz83_10 : wc.cell? ⟨gb210, 10, none⟩ = some (.bool ((rd_T79 l0_1 x6_1).f7)) := cI BK210.out 10
       have hfz83_0 := bF BK210.out 0
       have hfz83_1 := bF BK210.out 1
       have hfz83_2 := bF BK210.out 2
       have hfz83_3 := bF BK210.out 3
       have hfz83_4 := bF BK210.out 4
       have hfz83_5 := bF BK210.out 5
       have hfz83_6 := bF BK210.out 6
       have hfz83_7 := bF BK210.out 7
       have hfz83_8 := bF BK210.out 8
       have hfz83_9 := bF BK210.out 9
       have hfz83_10 := bF BK210.out 10
       go_wp2
       go_roundg kj47
       case measure => have := HK1.out; have := HJ47.out; omega
       case rel => (try rw [← Nbq23.out]); (try rw [← Nbq57.out]); exact ⟨(wrap64 (x6_1 + 1)), (x206001_1), (u206001), xE, H', ⟨by have := HK1.out; have := HJ47.out; omega⟩, ⟨kr (Kd.R_mono HO_206001.out (fun _ hk => trivial))⟩, ⟨by (with_reducible repeat (first | refine blk_drewN ?_ _ | refine blk_drew ?_ | refine blk_alloc ?_ _)); exact BK199.out⟩, ⟨by (with_reducible repeat (first | refine blk_drewN ?_ _ | refine blk_drew ?_ | refine blk_alloc ?_ _)); exact BK200.out⟩, ⟨by (with_reducible repeat (first | refine blk_drewN ?_ _ | refine blk_drew ?_ | refine blk_alloc ?_ _)); exact BK205.out⟩, ⟨bl HB.out⟩⟩
      rw [if_pos c68] at H
      have c68b0 : ((rd_T79 l0_1 x6_1).f0) = true := c68
      clear c68
      replace H := Option.bind_eq_some_iff.mp H
      obtain ⟨⟨t228, t229, t230, t231, t232, t233, t234, t235, t236, t237, t238⟩, A690, H⟩ := H
      replace H : (if 0 ≤ x6_1 then (if x6_1 < (x206001_1.length : Int) then (spec_Decide.l0 kj47 t207 (wrap64 (x6_1 + 1)) a0_0 l0_1 t201 (x206001_1.set (x6_1 : Int).toNat (⟨t228, t229, (⟨t230, t231, t232, t233⟩ : S73), t234, t235, t236, t237, t238⟩ : S79))) else (none)) else (none)) = some (r1, r2) := H
      have A69 := aM A690
      clear A690
      by_cases c70 : 0 ≤ x6_1
      case neg =>
       rw [if_neg c70] at H
       exact absurd H (by simp)
      rw [if_pos c70] at H
      have c70b0 : decide (0 ≤ x6_1) = true := decide_eq_true c70
      clear c70
      by_cases c71 : x6_1 < (x206001_1.length : Int)
      case neg =>
       rw [if_neg c71] at H
       exact absurd H (by simp)
      rw [if_pos c71] at H
      have c71b0 : decide (x6_1 < (x206001_1.length : Int)) = true := decide_eq_true c71
      clear c71
      obtain ⟨y239, hy239⟩ : ∃ y_ : List (S79), y_ = (x206001_1.set (x6_1 : Int).toNat (⟨t228, t229, (⟨t230, t231, t232, t233⟩ : S73), t234, t235, t236, t237, t238⟩ : S79)) := ⟨_, rfl⟩
      replace H : (spec_Decide.l0 kj47 t207 (wrap64 (x6_1 + 1)) a0_0 l0_1 t201 y239) = some (r1, r2) := by first | (rw [hy239]; with_reducible exact H) | (have H2_ := (Option.bind_some _ _).symm.trans H; rw [hy239]; with_reducible exact H2_) | (have H2_ := (Option.bind_some _ _).symm.trans H; with_reducible exact H2_) | with_reducible exact H | (rw [hy239]; exact H) | exact H
      have Ny239 := aM hy239
      clear hy239
      have H' := aM H
      clear H
      have hnb73 := NB210_199.out
      have hnc73 := NB199_210.out
      have hnb74 := NB210_200.out
      have hnc74 := NB200_210.out
      have hnb75 := NB210_205.out
      have hnc75 := NB205_210.out
      have hcz76_0 : wc.cell? ⟨gb210, 0, none⟩ = some (.bool ((rd_T79 l0_1 x6_1).f0)) := cI BK210.out 0
      have hcz76_1 : wc.cell? ⟨gb210, 1, none⟩ = some (.bool ((rd_T79 l0_1 x6_1).f1)) := cI BK210.out 1
      have hcz76_2 : wc.cell? ⟨gb210, 2, none⟩ = some (.int .i64 ((rd_T79 l0_1 x6_1).f2.f0)) := cI BK210.out 2
      have hcz76_3 : wc.cell? ⟨gb210, 3, none⟩ = some (.int .i64 ((rd_T79 l0_1 x6_1).f2.f1)) := cI BK210.out 3
      have hcz76_4 : wc.cell? ⟨gb210, 4, none⟩ = some (.int .i64 ((rd_T79 l0_1 x6_1).f2.f2)) := cI BK210.out 4
      have hcz76_5 : wc.cell? ⟨gb210, 5, none⟩ = some (.int .i64 ((rd_T79 l0_1 x6_1).f2.f3)) := cI BK210.out 5
      have hcz76_6 : wc.cell? ⟨gb210, 6, none⟩ = some (.int .i64 ((rd_T79 l0_1 x6_1).f3)) := cI BK210.out 6
      have hcz76_7 : wc.cell? ⟨gb210, 7, none⟩ = some (.int .i64 ((rd_T79 l0_1 x6_1).f4)) := cI BK210.out 7
      have hcz76_8 : wc.cell? ⟨gb210, 8, none⟩ = some (.int .i64 ((rd_T79 l0_1 x6_1).f5)) := cI BK210.out 8
      have hcz76_9 : wc.cell? ⟨gb210, 9, none⟩ = some (.int .i64 ((rd_T79 l0_1 x6_1).f6)) := cI BK210.out 9
      have hcz76_10 : wc.cell? ⟨gb210, 10, none⟩ = some (.bool ((rd_T79 l0_1 x6_1).f7)) := cI BK210.out 10
      have hfz76_0 := bF BK210.out 0
      have hfz76_1 := bF BK210.out 1
      have hfz76_2 := bF BK210.out 2
      have hfz76_3 := bF BK210.out 3
      have hfz76_4 := bF BK210.out 4
      have hfz76_5 := bF BK210.out 5
      have hfz76_6 := bF BK210.out 6
      have hfz76_7 := bF BK210.out 7
      have hfz76_8 := bF BK210.out 8
      have hfz76_9 := bF BK210.out 9
      have hfz76_10 := bF BK210.out 10
      try go_wp2
      have n0_ := aM (Kd.R_drew HO_206001.out)
      have n1_ := aM (blk_drew BK199.out)
      have n2_ := aM (blk_drew BK200.out)
      have n3_ := aM (blk_drew BK205.out)
      have n4_ := aM (blk_drew BK210.out)
      have n5_ := aM (below_drew1 HB.out)
      clear HO_206001 BK199
      clear BK200 BK205
      clear BK210 HB
      have HO_206001 := n0_
      have BK199 := n1_
      have BK200 := n2_
      have BK205 := n3_
      have BK210 := n4_
      have HB := n5_
      clear n0_ n1_ n2_ n3_ n4_ n5_
      refine start_ (n := 8) (S := fun w' => w'.cell? ⟨gb205, 0, none⟩ = some (.int .i64 t201) ∧ w'.cell? ⟨gb205, 1, none⟩ = some (u206001) ∧ w'.cell? ⟨gb210, 0, none⟩ = some (.bool ((rd_T79 l0_1 x6_1).f0)) ∧ w'.cell? ⟨gb210, 1, none⟩ = some (.bool ((rd_T79 l0_1 x6_1).f1)) ∧ w'.cell? ⟨gb210, 2, none⟩ = some (.int .i64 ((rd_T79 l0_1 x6_1).f2.f0)) ∧ w'.cell? ⟨gb210, 3, none⟩ = some (.int .i64 ((rd_T79 l0_1 x6_1).f2.f1)) ∧ w'.cell? ⟨gb210, 4, none⟩ = some (.int .i64 ((rd_T79 l0_1 x6_1).f2.f2)) ∧ w'.cell? ⟨gb210, 5, none⟩ = some (.int .i64 ((rd_T79 l0_1 x6_1).f2.f3)) ∧ w'.cell? ⟨gb210, 6, none⟩ = some (.int .i64 ((rd_T79 l0_1 x6_1).f3)) ∧ w'.cell? ⟨gb210, 7, none⟩ = some (.int .i64 ((rd_T79 l0_1 x6_1).f4)) ∧ w'.cell? ⟨gb210, 8, none⟩ = some (.int .i64 ((rd_T79 l0_1 x6_1).f5)) ∧ w'.cell? ⟨gb210, 9, none⟩ = some (.int .i64 ((rd_T79 l0_1 x6_1).f6)) ∧ w'.cell? ⟨gb210, 10, none⟩ = some (.bool ((rd_T79 l0_1 x6_1).f7))) (ds := [7]) (dn 8 0) (by kernel_rfl) rfl rfl ⟨cI BK205.out 0, cI BK205.out 1, cI BK210.out 0, cI BK210.out 1, cI BK210.out 2, cI BK210.out 3, cI BK210.out 4, cI BK210.out 5, cI BK210.out 6, cI BK210.out 7, cI BK210.out 8, cI BK210.out 9, cI BK210.out 10⟩ (fun hHeld => ?_); refine with_tabW spec_Decide.tab15 spec_Decide.bits15 (fun HT_ HW_ => ?_)
      generalize wc.drew = w77 at HO_206001 BK199 BK200 BK205 BK210 HB hHeld ⊢
      refine nY (N := some 47) HT_ ?_
      refine pure_ (i := 2) (N := some 49) (v := ?_) (a' := ?_) #[Y,U,Y,U,U,U,U,U] rfl rfl (any_of HT_.out (by kernel_rfl)) (fun _ _ _ h => h) (Or.inl ⟨by rfl, ?_⟩) ?_ ?_
      rotate_left
      ·intro w'
       go_simp
       with_reducible rfl
      rotate_left
      ·simp only [Act.put, sA, sZ, sS, i64_w, i32_w]
       rfl
      refine pure_ (i := 4) (N := some 51) (v := ?_) (a' := ?_) #[Y,U,Y,U,Y,U,U,U] rfl rfl (any_of HT_.out (by kernel_rfl)) (fun _ _ _ h => h) (Or.inl ⟨by rfl, ?_⟩) ?_ ?_
      rotate_left
      ·intro w'
       go_simp
       with_reducible rfl
      rotate_left
      ·simp only [Act.put, sA, sZ, sS, i64_w, i32_w]
       rfl
      refine take_ (i := 1) (N := some 48) (v := ?_) (a' := ?_) #[Y,Y,Y,U,Y,U,U,U] rfl rfl (take_ofW HT_.out HW_.out (by kernel_rfl)) (fun _ _ _ h => h) (Or.inl ⟨by rfl, ?_⟩) hHeld ?_ ?_
      rotate_left
      ·rintro w' ⟨s0, s1, s2, s3, s4, s5, s6, s7, s8, s9, s10, s11, s12⟩
       go_simp
       with_reducible rfl
      rotate_left
      ·simp only [Act.put, sA, sZ, sS, i64_w, i32_w]
       rfl
      refine take_ (i := 3) (N := some 50) (v := ?_) (a' := ?_) #[Y,Y,Y,Y,Y,U,U,U] rfl rfl (take_ofW HT_.out HW_.out (by kernel_rfl)) (fun _ _ _ h => h) (Or.inl ⟨by rfl, ?_⟩) hHeld ?_ ?_
      rotate_left
      ·rintro w' ⟨s0, s1, s2, s3, s4, s5, s6, s7, s8, s9, s10, s11, s12⟩
       go_simp
       with_reducible rfl
      rotate_left
      ·simp only [Act.put, sA, sZ, sS, i64_w, i32_w]
       rfl
      refine one_ (i := 5) (N := some 52) #[Y,Y,Y,Y,Y,Y,U,U] rfl rfl (one_of HT_.out (by kernel_rfl)) (by decide) (fun K hK => ?_)
      refine goes_ Try.func69 (by kernel_rfl) rfl #[.agg #[.bool ((rd_T79 l0_1 x6_1).f0), .bool ((rd_T79 l0_1 x6_1).f1), .int .i64 ((rd_T79 l0_1 x6_1).f2.f0), .int .i64 ((rd_T79 l0_1 x6_1).f2.f1), .int .i64 ((rd_T79 l0_1 x6_1).f2.f2), .int .i64 ((rd_T79 l0_1 x6_1).f2.f3), .int .i64 ((rd_T79 l0_1 x6_1).f3), .int .i64 ((rd_T79 l0_1 x6_1).f4), .int .i64 ((rd_T79 l0_1 x6_1).f5), .int .i64 ((rd_T79 l0_1 x6_1).f6), .bool ((rd_T79 l0_1 x6_1).f7)], .int .i64 3] (by rfl) rfl rfl (by (try simp only [List.map_toArray, List.map_cons, List.map_nil]); first | done | rfl | (simp only [c68b0]; rfl) | (simp only [List.length_drop, List.length_take]; rfl)) ?_
      with_reducible refine (spec_Turn.calls kj47 ((rd_T79 l0_1 x6_1).f0) ((rd_T79 l0_1 x6_1).f1) ((rd_T79 l0_1 x6_1).f2.f0) ((rd_T79 l0_1 x6_1).f2.f1) ((rd_T79 l0_1 x6_1).f2.f2) ((rd_T79 l0_1 x6_1).f2.f3) ((rd_T79 l0_1 x6_1).f3) ((rd_T79 l0_1 x6_1).f4) ((rd_T79 l0_1 x6_1).f5) ((rd_T79 l0_1 x6_1).f6) ((rd_T79 l0_1 x6_1).f7) 3 t228 t229 t230 t231 t232 t233 t234 t235 t236 t237 t238 _ A69.out).mono ?_
      rintro e w78 ⟨rfl, hb⟩
      refine ⟨_, rfl, ?_⟩
      have n0_ := aM (kB (kr HO_206001.out) hb)
      have n1_ := aM (bB (g := gb199) (o := .cells #[.int .i64 a0_0, .slice (some ad209) l0_1.length c0_1] 28 (0, 0)) (bk BK199.out) hb)
      have n2_ := aM (bB (g := gb200) (o := .cells #[.int .i64 0, .slice none 0 0] 28 (0, 0)) (bk BK200.out) hb)
      have n3_ := aM (bB (g := gb205) (o := .cells #[.int .i64 t201, u206001] 28 (0, 0)) (bk BK205.out) hb)
      have n4_ := aM (bB (g := gb210) (o := .cells #[.bool ((rd_T79 l0_1 x6_1).f0), .bool ((rd_T79 l0_1 x6_1).f1), .int .i64 ((rd_T79 l0_1 x6_1).f2.f0), .int .i64 ((rd_T79 l0_1 x6_1).f2.f1), .int .i64 ((rd_T79 l0_1 x6_1).f2.f2), .int .i64 ((rd_T79 l0_1 x6_1).f2.f3), .int .i64 ((rd_T79 l0_1 x6_1).f3), .int .i64 ((rd_T79 l0_1 x6_1).f4), .int .i64 ((rd_T79 l0_1 x6_1).f5), .int .i64 ((rd_T79 l0_1 x6_1).f6), .bool ((rd_T79 l0_1 x6_1).f7)] 79 (0, 0)) (bk BK210.out) hb)
      have n5_ := aM (bS (bl HB.out) hb)
      clear HO_206001 BK199
      clear BK200 BK205
      clear BK210 HB
      have HO_206001 := n0_
      have BK199 := n1_
      have BK200 := n2_
      have BK205 := n3_
      have BK210 := n4_
      have HB := n5_
      clear n0_ n1_ n2_ n3_ n4_ n5_
      (try clear hb)
      (try clear hb2)
      (try clear hk)
      (try clear hi)
      have p72 : 0 ≤ (x6_1 : Int) := of_decide_eq_true (by first | (with_reducible assumption) | assumption)
      have q72 : (x6_1 : Int) < ((x206001_1.length : Int) : Int) := of_decide_eq_true (by first | (with_reducible assumption) | assumption)
      obtain ⟨go72, co72, eo72, gb72, gl72, cl72, HG72⟩ := Kd.R_form HO_206001.out (by omega)
      (first | cases eo72 | (injection eo72 with ea_ en_ ec_; (first | subst ea_ | (injection ea_ with ea_; subst ea_)); subst ec_; clear en_))
      have GB72 := aM gb72
      have GG72 := aM HG72
      clear gb72 gl72 HG72
      obtain ⟨ce72, hcl72, hM72, hcc72, hfr72⟩ := Kd.R_elem HO_206001.out z79 (x6_1 : Int) p72 q72
      obtain rfl := k79_openM hM72
      have hx72_0 : World.cell? _ ⟨go72, (x6_1 : Int).toNat * 11, none⟩ = some (.bool ((rd_T79 x206001_1 x6_1).f0)) := hcc72 0 _ rfl
      have hx72_1 : World.cell? _ ⟨go72, (x6_1 : Int).toNat * 11 + 1, none⟩ = some (.bool ((rd_T79 x206001_1 x6_1).f1)) := hcc72 1 _ rfl
      have hx72_2 : World.cell? _ ⟨go72, (x6_1 : Int).toNat * 11 + 2, none⟩ = some (.int .i64 ((rd_T79 x206001_1 x6_1).f2.f0)) := hcc72 2 _ rfl
      have hx72_3 : World.cell? _ ⟨go72, (x6_1 : Int).toNat * 11 + 3, none⟩ = some (.int .i64 ((rd_T79 x206001_1 x6_1).f2.f1)) := hcc72 3 _ rfl
      have hx72_4 : World.cell? _ ⟨go72, (x6_1 : Int).toNat * 11 + 4, none⟩ = some (.int .i64 ((rd_T79 x206001_1 x6_1).f2.f2)) := hcc72 4 _ rfl
      have hx72_5 : World.cell? _ ⟨go72, (x6_1 : Int).toNat * 11 + 5, none⟩ = some (.int .i64 ((rd_T79 x206001_1 x6_1).f2.f3)) := hcc72 5 _ rfl
      have hx72_6 : World.cell? _ ⟨go72, (x6_1 : Int).toNat * 11 + 6, none⟩ = some (.int .i64 ((rd_T79 x206001_1 x6_1).f3)) := hcc72 6 _ rfl
      have hx72_7 : World.cell? _ ⟨go72, (x6_1 : Int).toNat * 11 + 7, none⟩ = some (.int .i64 ((rd_T79 x206001_1 x6_1).f4)) := hcc72 7 _ rfl
      have hx72_8 : World.cell? _ ⟨go72, (x6_1 : Int).toNat * 11 + 8, none⟩ = some (.int .i64 ((rd_T79 x206001_1 x6_1).f5)) := hcc72 8 _ rfl
      have hx72_9 : World.cell? _ ⟨go72, (x6_1 : Int).toNat * 11 + 9, none⟩ = some (.int .i64 ((rd_T79 x206001_1 x6_1).f6)) := hcc72 9 _ rfl
      have hx72_10 : World.cell? _ ⟨go72, (x6_1 : Int).toNat * 11 + 10, none⟩ = some (.bool ((rd_T79 x206001_1 x6_1).f7)) := hcc72 10 _ rfl
      have hf72_0 : World.frozen? _ ⟨go72, (x6_1 : Int).toNat * 11, none⟩ = false := hfr72 0
      have hf72_1 : World.frozen? _ ⟨go72, (x6_1 : Int).toNat * 11 + 1, none⟩ = false := hfr72 1
      have hf72_2 : World.frozen? _ ⟨go72, (x6_1 : Int).toNat * 11 + 2, none⟩ = false := hfr72 2
      have hf72_3 : World.frozen? _ ⟨go72, (x6_1 : Int).toNat * 11 + 3, none⟩ = false := hfr72 3
      have hf72_4 : World.frozen? _ ⟨go72, (x6_1 : Int).toNat * 11 + 4, none⟩ = false := hfr72 4
      have hf72_5 : World.frozen? _ ⟨go72, (x6_1 : Int).toNat * 11 + 5, none⟩ = false := hfr72 5
      have hf72_6 : World.frozen? _ ⟨go72, (x6_1 : Int).toNat * 11 + 6, none⟩ = false := hfr72 6
      have hf72_7 : World.frozen? _ ⟨go72, (x6_1 : Int).toNat * 11 + 7, none⟩ = false := hfr72 7
      have hf72_8 : World.frozen? _ ⟨go72, (x6_1 : Int).toNat * 11 + 8, none⟩ = false := hfr72 8
      have hf72_9 : World.frozen? _ ⟨go72, (x6_1 : Int).toNat * 11 + 9, none⟩ = false := hfr72 9
      have hf72_10 : World.frozen? _ ⟨go72, (x6_1 : Int).toNat * 11 + 10, none⟩ = false := hfr72 10
      clear hcl72 hcc72 hfr72 hM72
      replace p72 := eq_true p72
      replace q72 := eq_true q72
      obtain ⟨ce79, hcl79, hM79, hcc79, hfr79⟩ := Kd.R_elem HO_206001.out z79 (x6_1 : Int) (of_decide_eq_true (by first | (with_reducible assumption) | assumption)) (by have h_ : (x6_1 : Int) < ((x206001_1.length : Int) : Int) := of_decide_eq_true (by first | (with_reducible assumption) | assumption); first | exact h_ | (have e_ := (Kd.R_reads' HO_206001.out).1; omega) | simpa using h_)
      obtain rfl := k79_openM hM79
      have HP79 := (Kd.R_seg HO_206001.out (x6_1 : Int) (of_decide_eq_true (by first | (with_reducible assumption) | assumption)) (by have h_ : (x6_1 : Int) < ((x206001_1.length : Int) : Int) := of_decide_eq_true (by first | (with_reducible assumption) | assumption); first | exact h_ | (have e_ := (Kd.R_reads' HO_206001.out).1; omega) | simpa using h_) (seg := [.bool t228, .bool t229, .int .i64 t230, .int .i64 t231, .int .i64 t232, .int .i64 t233, .int .i64 t234, .int .i64 t235, .int .i64 t236, .int .i64 t237, .bool t238]) (j := 0) hcl79 hcc79 (show 11 ≤ 11 from by decide) (x' := (⟨t228, t229, (⟨t230, t231, t232, t233⟩ : S73), t234, t235, t236, t237, t238⟩ : S79)) (k79_mkM _ _ _ (⟨t228, t229, (⟨t230, t231, t232, t233⟩ : S73), t234, t235, t236, t237, t238⟩ : S79) ) (fun _ hk => hk)).1
      rw [← Ny239.out] at HP79
      have HQ79 := aM HP79
      clear hcl79 hcc79 hfr79 hM79 HP79
      refine hK.out _ _ ⟨cI BK205.out 0, cI BK205.out 1, cI BK210.out 0, cI BK210.out 1, cI BK210.out 2, cI BK210.out 3, cI BK210.out 4, cI BK210.out 5, cI BK210.out 6, cI BK210.out 7, cI BK210.out 8, cI BK210.out 9, cI BK210.out 10⟩ (fun hHeld => ?_)
      clear hK K
      refine norm_ (a' := ?_) ?_ ?_
      rotate_left
      ·show Act.put _ (some 52) _ = _
       simp only [Act.put, sA, sZ, sS, i64_w, i32_w]
       rfl
      refine pure_ (i := 6) (N := some 53) (v := ?_) (a' := ?_) #[Y,Y,Y,Y,Y,Y,Y,U] rfl rfl (any_of HT_.out (by kernel_rfl)) (fun _ _ _ h => h) (Or.inl ⟨by rfl, ?_⟩) ?_ ?_
      rotate_left
      ·intro w'
       go_simp
       with_reducible rfl
      rotate_left
      ·simp only [Act.put, sA, sZ, sS, i64_w, i32_w]
       rfl
      refine last_ (i := 7) (N := none) #[Y,Y,Y,Y,Y,Y,Y,Y] rfl rfl (one_of HT_.out (by kernel_rfl)) (by decide) (fun K hK => ?_)
      refine skip_ (w1 := ?_) (by rfl) rfl ?_ ?_
      rotate_left
      ·go_simp
       rfl
      refine hK.out _ _ ?_
      clear hK K
      refine done_ (done_of HT_.out (by kernel_rfl)) ?_
      try go_wp2
      go_roundg kj47
      case measure => have := HK1.out; have := HJ47.out; omega
      case rel => (try rw [← Nbq23.out]); (try rw [← Nbq57.out]); exact ⟨(wrap64 (x6_1 + 1)), (y239), (.slice (some ⟨go72, 0, none⟩) x206001_1.length co72), xE, H', ⟨by have := HK1.out; have := HJ47.out; omega⟩, ⟨kr (Kd.R_mono HQ79.out (fun _ hk => trivial))⟩, ⟨by (with_reducible repeat (first | refine blk_drewN ?_ _ | refine blk_drew ?_ | refine blk_alloc ?_ _)); refine blk_far ?_ (by have h_ := Kd.R_ne HO_206001.out BK199.out (by decide); intro e_; exact h_ (by rw [e_]; rfl)) _; (with_reducible repeat (first | refine blk_drewN ?_ _ | refine blk_drew ?_ | refine blk_alloc ?_ _)); refine blk_far ?_ (by have h_ := Kd.R_ne HO_206001.out BK199.out (by decide); intro e_; exact h_ (by rw [e_]; rfl)) _; (with_reducible repeat (first | refine blk_drewN ?_ _ | refine blk_drew ?_ | refine blk_alloc ?_ _)); refine blk_far ?_ (by have h_ := Kd.R_ne HO_206001.out BK199.out (by decide); intro e_; exact h_ (by rw [e_]; rfl)) _; (with_reducible repeat (first | refine blk_drewN ?_ _ | refine blk_drew ?_ | refine blk_alloc ?_ _)); refine blk_far ?_ (by have h_ := Kd.R_ne HO_206001.out BK199.out (by decide); intro e_; exact h_ (by rw [e_]; rfl)) _; (with_reducible repeat (first | refine blk_drewN ?_ _ | refine blk_drew ?_ | refine blk_alloc ?_ _)); refine blk_far ?_ (by have h_ := Kd.R_ne HO_206001.out BK199.out (by decide); intro e_; exact h_ (by rw [e_]; rfl)) _; (with_reducible repeat (first | refine blk_drewN ?_ _ | refine blk_drew ?_ | refine blk_alloc ?_ _)); refine blk_far ?_ (by have h_ := Kd.R_ne HO_206001.out BK199.out (by decide); intro e_; exact h_ (by rw [e_]; rfl)) _; (with_reducible repeat (first | refine blk_drewN ?_ _ | refine blk_drew ?_ | refine blk_alloc ?_ _)); refine blk_far ?_ (by have h_ := Kd.R_ne HO_206001.out BK199.out (by decide); intro e_; exact h_ (by rw [e_]; rfl)) _; (with_reducible repeat (first | refine blk_drewN ?_ _ | refine blk_drew ?_ | refine blk_alloc ?_ _)); refine blk_far ?_ (by have h_ := Kd.R_ne HO_206001.out BK199.out (by decide); intro e_; exact h_ (by rw [e_]; rfl)) _; (with_reducible repeat (first | refine blk_drewN ?_ _ | refine blk_drew ?_ | refine blk_alloc ?_ _)); refine blk_far ?_ (by have h_ := Kd.R_ne HO_206001.out BK199.out (by decide); intro e_; exact h_ (by rw [e_]; rfl)) _; (with_reducible repeat (first | refine blk_drewN ?_ _ | refine blk_drew ?_ | refine blk_alloc ?_ _)); refine blk_far ?_ (by have h_ := Kd.R_ne HO_206001.out BK199.out (by decide); intro e_; exact h_ (by rw [e_]; rfl)) _; (with_reducible repeat (first | refine blk_drewN ?_ _ | refine blk_drew ?_ | refine blk_alloc ?_ _)); refine blk_far ?_ (by have h_ := Kd.R_ne HO_206001.out BK199.out (by decide); intro e_; exact h_ (by rw [e_]; rfl)) _; (with_reducible repeat (first | refine blk_drewN ?_ _ | refine blk_drew ?_ | refine blk_alloc ?_ _)); exact BK199.out⟩, ⟨by (with_reducible repeat (first | refine blk_drewN ?_ _ | refine blk_drew ?_ | refine blk_alloc ?_ _)); refine blk_far ?_ (by have h_ := Kd.R_ne HO_206001.out BK200.out (by decide); intro e_; exact h_ (by rw [e_]; rfl)) _; (with_reducible repeat (first | refine blk_drewN ?_ _ | refine blk_drew ?_ | refine blk_alloc ?_ _)); refine blk_far ?_ (by have h_ := Kd.R_ne HO_206001.out BK200.out (by decide); intro e_; exact h_ (by rw [e_]; rfl)) _; (with_reducible repeat (first | refine blk_drewN ?_ _ | refine blk_drew ?_ | refine blk_alloc ?_ _)); refine blk_far ?_ (by have h_ := Kd.R_ne HO_206001.out BK200.out (by decide); intro e_; exact h_ (by rw [e_]; rfl)) _; (with_reducible repeat (first | refine blk_drewN ?_ _ | refine blk_drew ?_ | refine blk_alloc ?_ _)); refine blk_far ?_ (by have h_ := Kd.R_ne HO_206001.out BK200.out (by decide); intro e_; exact h_ (by rw [e_]; rfl)) _; (with_reducible repeat (first | refine blk_drewN ?_ _ | refine blk_drew ?_ | refine blk_alloc ?_ _)); refine blk_far ?_ (by have h_ := Kd.R_ne HO_206001.out BK200.out (by decide); intro e_; exact h_ (by rw [e_]; rfl)) _; (with_reducible repeat (first | refine blk_drewN ?_ _ | refine blk_drew ?_ | refine blk_alloc ?_ _)); refine blk_far ?_ (by have h_ := Kd.R_ne HO_206001.out BK200.out (by decide); intro e_; exact h_ (by rw [e_]; rfl)) _; (with_reducible repeat (first | refine blk_drewN ?_ _ | refine blk_drew ?_ | refine blk_alloc ?_ _)); refine blk_far ?_ (by have h_ := Kd.R_ne HO_206001.out BK200.out (by decide); intro e_; exact h_ (by rw [e_]; rfl)) _; (with_reducible repeat (first | refine blk_drewN ?_ _ | refine blk_drew ?_ | refine blk_alloc ?_ _)); refine blk_far ?_ (by have h_ := Kd.R_ne HO_206001.out BK200.out (by decide); intro e_; exact h_ (by rw [e_]; rfl)) _; (with_reducible repeat (first | refine blk_drewN ?_ _ | refine blk_drew ?_ | refine blk_alloc ?_ _)); refine blk_far ?_ (by have h_ := Kd.R_ne HO_206001.out BK200.out (by decide); intro e_; exact h_ (by rw [e_]; rfl)) _; (with_reducible repeat (first | refine blk_drewN ?_ _ | refine blk_drew ?_ | refine blk_alloc ?_ _)); refine blk_far ?_ (by have h_ := Kd.R_ne HO_206001.out BK200.out (by decide); intro e_; exact h_ (by rw [e_]; rfl)) _; (with_reducible repeat (first | refine blk_drewN ?_ _ | refine blk_drew ?_ | refine blk_alloc ?_ _)); refine blk_far ?_ (by have h_ := Kd.R_ne HO_206001.out BK200.out (by decide); intro e_; exact h_ (by rw [e_]; rfl)) _; (with_reducible repeat (first | refine blk_drewN ?_ _ | refine blk_drew ?_ | refine blk_alloc ?_ _)); exact BK200.out⟩, ⟨by (with_reducible repeat (first | refine blk_drewN ?_ _ | refine blk_drew ?_ | refine blk_alloc ?_ _)); refine blk_far ?_ (by have h_ := Kd.R_ne HO_206001.out BK205.out (by decide); intro e_; exact h_ (by rw [e_]; rfl)) _; (with_reducible repeat (first | refine blk_drewN ?_ _ | refine blk_drew ?_ | refine blk_alloc ?_ _)); refine blk_far ?_ (by have h_ := Kd.R_ne HO_206001.out BK205.out (by decide); intro e_; exact h_ (by rw [e_]; rfl)) _; (with_reducible repeat (first | refine blk_drewN ?_ _ | refine blk_drew ?_ | refine blk_alloc ?_ _)); refine blk_far ?_ (by have h_ := Kd.R_ne HO_206001.out BK205.out (by decide); intro e_; exact h_ (by rw [e_]; rfl)) _; (with_reducible repeat (first | refine blk_drewN ?_ _ | refine blk_drew ?_ | refine blk_alloc ?_ _)); refine blk_far ?_ (by have h_ := Kd.R_ne HO_206001.out BK205.out (by decide); intro e_; exact h_ (by rw [e_]; rfl)) _; (with_reducible repeat (first | refine blk_drewN ?_ _ | refine blk_drew ?_ | refine blk_alloc ?_ _)); refine blk_far ?_ (by have h_ := Kd.R_ne HO_206001.out BK205.out (by decide); intro e_; exact h_ (by rw [e_]; rfl)) _; (with_reducible repeat (first | refine blk_drewN ?_ _ | refine blk_drew ?_ | refine blk_alloc ?_ _)); refine blk_far ?_ (by have h_ := Kd.R_ne HO_206001.out BK205.out (by decide); intro e_; exact h_ (by rw [e_]; rfl)) _; (with_reducible repeat (first | refine blk_drewN ?_ _ | refine blk_drew ?_ | refine blk_alloc ?_ _)); refine blk_far ?_ (by have h_ := Kd.R_ne HO_206001.out BK205.out (by decide); intro e_; exact h_ (by rw [e_]; rfl)) _; (with_reducible repeat (first | refine blk_drewN ?_ _ | refine blk_drew ?_ | refine blk_alloc ?_ _)); refine blk_far ?_ (by have h_ := Kd.R_ne HO_206001.out BK205.out (by decide); intro e_; exact h_ (by rw [e_]; rfl)) _; (with_reducible repeat (first | refine blk_drewN ?_ _ | refine blk_drew ?_ | refine blk_alloc ?_ _)); refine blk_far ?_ (by have h_ := Kd.R_ne HO_206001.out BK205.out (by decide); intro e_; exact h_ (by rw [e_]; rfl)) _; (with_reducible repeat (first | refine blk_drewN ?_ _ | refine blk_drew ?_ | refine blk_alloc ?_ _)); refine blk_far ?_ (by have h_ := Kd.R_ne HO_206001.out BK205.out (by decide); intro e_; exact h_ (by rw [e_]; rfl)) _; (with_reducible repeat (first | refine blk_drewN ?_ _ | refine blk_drew ?_ | refine blk_alloc ?_ _)); refine blk_far ?_ (by have h_ := Kd.R_ne HO_206001.out BK205.out (by decide); intro e_; exact h_ (by rw [e_]; rfl)) _; (with_reducible repeat (first | refine blk_drewN ?_ _ | refine blk_drew ?_ | refine blk_alloc ?_ _)); exact BK205.out⟩, ⟨by repeat (first | (with_reducible first | exact HB.out | apply below_alloc | apply pw_below_drewN | apply below_drew1 | refine below_set ?_ GB72.out | refine below_set ?_ GB72.out | refine below_set ?_ GB72.out | refine below_set ?_ GB72.out | refine below_set ?_ GB72.out | refine below_set ?_ GB72.out | refine below_set ?_ GB72.out | refine below_set ?_ GB72.out | refine below_set ?_ GB72.out | refine below_set ?_ GB72.out | refine below_set ?_ GB72.out | refine below_set ?_ GE199.out | refine below_set ?_ GE200.out | refine below_set ?_ GE205.out | refine below_set ?_ GE210.out) | exact HB.out)⟩⟩
     replace c67 := Bool.eq_false_iff.mpr c67
     subst c67
     have H1 : (if ((rd_T79 l0_1 x6_1).f0) = true then ((spec_Turn.f kj47 ((rd_T79 l0_1 x6_1).f0) ((rd_T79 l0_1 x6_1).f1) ((rd_T79 l0_1 x6_1).f2.f0) ((rd_T79 l0_1 x6_1).f2.f1) ((rd_T79 l0_1 x6_1).f2.f2) ((rd_T79 l0_1 x6_1).f2.f3) ((rd_T79 l0_1 x6_1).f3) ((rd_T79 l0_1 x6_1).f4) ((rd_T79 l0_1 x6_1).f5) ((rd_T79 l0_1 x6_1).f6) ((rd_T79 l0_1 x6_1).f7) 2).bind fun bt240 => (if 0 ≤ x6_1 then (if x6_1 < (x206001_1.length : Int) then (spec_Decide.l0 kj47 t207 (wrap64 (x6_1 + 1)) a0_0 l0_1 t201 (x206001_1.set (x6_1 : Int).toNat (⟨bt240.1, bt240.2.1, (⟨bt240.2.2.1, bt240.2.2.2.1, bt240.2.2.2.2.1, bt240.2.2.2.2.2.1⟩ : S73), bt240.2.2.2.2.2.2.1, bt240.2.2.2.2.2.2.2.1, bt240.2.2.2.2.2.2.2.2.1, bt240.2.2.2.2.2.2.2.2.2.1, bt240.2.2.2.2.2.2.2.2.2.2⟩ : S79))) else (none)) else (none))) else (spec_Decide.l0 kj47 t207 (wrap64 (x6_1 + 1)) a0_0 l0_1 t201 x206001_1)) = some (r1, r2) := by rw [if_neg (show ¬ (false = true) by decide)] at H; exact H
     clear H
     have H := H1
     clear H1
     by_cases c84 : ((rd_T79 l0_1 x6_1).f0) = true
     case neg =>
      rw [if_neg c84] at H
      have c84b0 : ((rd_T79 l0_1 x6_1).f0) = false := by simpa using c84
      clear c84
      have H' := aM H
      clear H
      have hnb96 := NB210_199.out
      have hnc96 := NB199_210.out
      have hnb97 := NB210_200.out
      have hnc97 := NB200_210.out
      have hnb98 := NB210_205.out
      have hnc98 := NB205_210.out
      have hcz99_0 : wc.cell? ⟨gb210, 0, none⟩ = some (.bool ((rd_T79 l0_1 x6_1).f0)) := cI BK210.out 0
      have hcz99_1 : wc.cell? ⟨gb210, 1, none⟩ = some (.bool ((rd_T79 l0_1 x6_1).f1)) := cI BK210.out 1
      have hcz99_2 : wc.cell? ⟨gb210, 2, none⟩ = some (.int .i64 ((rd_T79 l0_1 x6_1).f2.f0)) := cI BK210.out 2
      have hcz99_3 : wc.cell? ⟨gb210, 3, none⟩ = some (.int .i64 ((rd_T79 l0_1 x6_1).f2.f1)) := cI BK210.out 3
      have hcz99_4 : wc.cell? ⟨gb210, 4, none⟩ = some (.int .i64 ((rd_T79 l0_1 x6_1).f2.f2)) := cI BK210.out 4
      have hcz99_5 : wc.cell? ⟨gb210, 5, none⟩ = some (.int .i64 ((rd_T79 l0_1 x6_1).f2.f3)) := cI BK210.out 5
      have hcz99_6 : wc.cell? ⟨gb210, 6, none⟩ = some (.int .i64 ((rd_T79 l0_1 x6_1).f3)) := cI BK210.out 6
      have hcz99_7 : wc.cell? ⟨gb210, 7, none⟩ = some (.int .i64 ((rd_T79 l0_1 x6_1).f4)) := cI BK210.out 7
      have hcz99_8 : wc.cell? ⟨gb210, 8, none⟩ = some (.int .i64 ((rd_T79 l0_1 x6_1).f5)) := cI BK210.out 8
      have hcz99_9 : wc.cell? ⟨gb210, 9, none⟩ = some (.int .i64 ((rd_T79 l0_1 x6_1).f6)) := cI BK210.out 9
      have hcz99_10 : wc.cell? ⟨gb210, 10, none⟩ = some (.bool ((rd_T79 l0_1 x6_1).f7)) := cI BK210.out 10
      have hfz99_0 := bF BK210.out 0
      have hfz99_1 := bF BK210.out 1
      have hfz99_2 := bF BK210.out 2
      have hfz99_3 := bF BK210.out 3
      have hfz99_4 := bF BK210.out 4
      have hfz99_5 := bF BK210.out 5
      have hfz99_6 := bF BK210.out 6
      have hfz99_7 := bF BK210.out 7
      have hfz99_8 := bF BK210.out 8
      have hfz99_9 := bF BK210.out 9
      have hfz99_10 := bF BK210.out 10
      go_wp2
      go_roundg kj47
      case measure => have := HK1.out; have := HJ47.out; omega
      case rel => (try rw [← Nbq23.out]); (try rw [← Nbq57.out]); exact ⟨(wrap64 (x6_1 + 1)), (x206001_1), (u206001), xE, H', ⟨by have := HK1.out; have := HJ47.out; omega⟩, ⟨kr (Kd.R_mono HO_206001.out (fun _ hk => trivial))⟩, ⟨by (with_reducible repeat (first | refine blk_drewN ?_ _ | refine blk_drew ?_ | refine blk_alloc ?_ _)); exact BK199.out⟩, ⟨by (with_reducible repeat (first | refine blk_drewN ?_ _ | refine blk_drew ?_ | refine blk_alloc ?_ _)); exact BK200.out⟩, ⟨by (with_reducible repeat (first | refine blk_drewN ?_ _ | refine blk_drew ?_ | refine blk_alloc ?_ _)); exact BK205.out⟩, ⟨bl HB.out⟩⟩
     rw [if_pos c84] at H
     have c84b0 : ((rd_T79 l0_1 x6_1).f0) = true := c84
     clear c84
     replace H := Option.bind_eq_some_iff.mp H
     obtain ⟨⟨t240, t241, t242, t243, t244, t245, t246, t247, t248, t249, t250⟩, A850, H⟩ := H
     replace H : (if 0 ≤ x6_1 then (if x6_1 < (x206001_1.length : Int) then (spec_Decide.l0 kj47 t207 (wrap64 (x6_1 + 1)) a0_0 l0_1 t201 (x206001_1.set (x6_1 : Int).toNat (⟨t240, t241, (⟨t242, t243, t244, t245⟩ : S73), t246, t247, t248, t249, t250⟩ : S79))) else (none)) else (none)) = some (r1, r2) := H
     have A85 := aM A850
     clear A850
     by_cases c86 : 0 ≤ x6_1
     case neg =>
      rw [if_neg c86] at H
      exact absurd H (by simp)
     rw [if_pos c86] at H
     have c86b0 : decide (0 ≤ x6_1) = true := decide_eq_true c86
     clear c86
     by_cases c87 : x6_1 < (x206001_1.length : Int)
     case neg =>
      rw [if_neg c87] at H
      exact absurd H (by simp)
     rw [if_pos c87] at H
     have c87b0 : decide (x6_1 < (x206001_1.length : Int)) = true := decide_eq_true c87
     clear c87
     obtain ⟨y251, hy251⟩ : ∃ y_ : List (S79), y_ = (x206001_1.set (x6_1 : Int).toNat (⟨t240, t241, (⟨t242, t243, t244, t245⟩ : S73), t246, t247, t248, t249, t250⟩ : S79)) := ⟨_, rfl⟩
     replace H : (spec_Decide.l0 kj47 t207 (wrap64 (x6_1 + 1)) a0_0 l0_1 t201 y251) = some (r1, r2) := by first | (rw [hy251]; with_reducible exact H) | (have H2_ := (Option.bind_some _ _).symm.trans H; rw [hy251]; with_reducible exact H2_) | (have H2_ := (Option.bind_some _ _).symm.trans H; with_reducible exact H2_) | with_reducible exact H | (rw [hy251]; exact H) | exact H
     have Ny251 := aM hy251
     clear hy251
     have H' := aM H
     clear H
     have hnb89 := NB210_199.out
     have hnc89 := NB199_210.out
     have hnb90 := NB210_200.out
     have hnc90 := NB200_210.out
     have hnb91 := NB210_205.out
     have hnc91 := NB205_210.out
     have hcz92_0 : wc.cell? ⟨gb210, 0, none⟩ = some (.bool ((rd_T79 l0_1 x6_1).f0)) := cI BK210.out 0
     have hcz92_1 : wc.cell? ⟨gb210, 1, none⟩ = some (.bool ((rd_T79 l0_1 x6_1).f1)) := cI BK210.out 1
     have hcz92_2 : wc.cell? ⟨gb210, 2, none⟩ = some (.int .i64 ((rd_T79 l0_1 x6_1).f2.f0)) := cI BK210.out 2
     have hcz92_3 : wc.cell? ⟨gb210, 3, none⟩ = some (.int .i64 ((rd_T79 l0_1 x6_1).f2.f1)) := cI BK210.out 3
     have hcz92_4 : wc.cell? ⟨gb210, 4, none⟩ = some (.int .i64 ((rd_T79 l0_1 x6_1).f2.f2)) := cI BK210.out 4
     have hcz92_5 : wc.cell? ⟨gb210, 5, none⟩ = some (.int .i64 ((rd_T79 l0_1 x6_1).f2.f3)) := cI BK210.out 5
     have hcz92_6 : wc.cell? ⟨gb210, 6, none⟩ = some (.int .i64 ((rd_T79 l0_1 x6_1).f3)) := cI BK210.out 6
     have hcz92_7 : wc.cell? ⟨gb210, 7, none⟩ = some (.int .i64 ((rd_T79 l0_1 x6_1).f4)) := cI BK210.out 7
     have hcz92_8 : wc.cell? ⟨gb210, 8, none⟩ = some (.int .i64 ((rd_T79 l0_1 x6_1).f5)) := cI BK210.out 8
     have hcz92_9 : wc.cell? ⟨gb210, 9, none⟩ = some (.int .i64 ((rd_T79 l0_1 x6_1).f6)) := cI BK210.out 9
     have hcz92_10 : wc.cell? ⟨gb210, 10, none⟩ = some (.bool ((rd_T79 l0_1 x6_1).f7)) := cI BK210.out 10
     have hfz92_0 := bF BK210.out 0
     have hfz92_1 := bF BK210.out 1
     have hfz92_2 := bF BK210.out 2
     have hfz92_3 := bF BK210.out 3
     have hfz92_4 := bF BK210.out 4
     have hfz92_5 := bF BK210.out 5
     have hfz92_6 := bF BK210.out 6
     have hfz92_7 := bF BK210.out 7
     have hfz92_8 := bF BK210.out 8
     have hfz92_9 := bF BK210.out 9
     have hfz92_10 := bF BK210.out 10
     try go_wp2
     have n0_ := aM (Kd.R_drew HO_206001.out)
     have n1_ := aM (blk_drew BK199.out)
     have n2_ := aM (blk_drew BK200.out)
     have n3_ := aM (blk_drew BK205.out)
     have n4_ := aM (blk_drew BK210.out)
     have n5_ := aM (below_drew1 HB.out)
     clear HO_206001 BK199
     clear BK200 BK205
     clear BK210 HB
     have HO_206001 := n0_
     have BK199 := n1_
     have BK200 := n2_
     have BK205 := n3_
     have BK210 := n4_
     have HB := n5_
     clear n0_ n1_ n2_ n3_ n4_ n5_
     refine start_ (n := 8) (S := fun w' => w'.cell? ⟨gb205, 0, none⟩ = some (.int .i64 t201) ∧ w'.cell? ⟨gb205, 1, none⟩ = some (u206001) ∧ w'.cell? ⟨gb210, 0, none⟩ = some (.bool ((rd_T79 l0_1 x6_1).f0)) ∧ w'.cell? ⟨gb210, 1, none⟩ = some (.bool ((rd_T79 l0_1 x6_1).f1)) ∧ w'.cell? ⟨gb210, 2, none⟩ = some (.int .i64 ((rd_T79 l0_1 x6_1).f2.f0)) ∧ w'.cell? ⟨gb210, 3, none⟩ = some (.int .i64 ((rd_T79 l0_1 x6_1).f2.f1)) ∧ w'.cell? ⟨gb210, 4, none⟩ = some (.int .i64 ((rd_T79 l0_1 x6_1).f2.f2)) ∧ w'.cell? ⟨gb210, 5, none⟩ = some (.int .i64 ((rd_T79 l0_1 x6_1).f2.f3)) ∧ w'.cell? ⟨gb210, 6, none⟩ = some (.int .i64 ((rd_T79 l0_1 x6_1).f3)) ∧ w'.cell? ⟨gb210, 7, none⟩ = some (.int .i64 ((rd_T79 l0_1 x6_1).f4)) ∧ w'.cell? ⟨gb210, 8, none⟩ = some (.int .i64 ((rd_T79 l0_1 x6_1).f5)) ∧ w'.cell? ⟨gb210, 9, none⟩ = some (.int .i64 ((rd_T79 l0_1 x6_1).f6)) ∧ w'.cell? ⟨gb210, 10, none⟩ = some (.bool ((rd_T79 l0_1 x6_1).f7))) (ds := [7]) (dn 8 0) (by kernel_rfl) rfl rfl ⟨cI BK205.out 0, cI BK205.out 1, cI BK210.out 0, cI BK210.out 1, cI BK210.out 2, cI BK210.out 3, cI BK210.out 4, cI BK210.out 5, cI BK210.out 6, cI BK210.out 7, cI BK210.out 8, cI BK210.out 9, cI BK210.out 10⟩ (fun hHeld => ?_); refine with_tabW spec_Decide.tab15 spec_Decide.bits15 (fun HT_ HW_ => ?_)
     generalize wc.drew = w93 at HO_206001 BK199 BK200 BK205 BK210 HB hHeld ⊢
     refine nY (N := some 47) HT_ ?_
     refine pure_ (i := 2) (N := some 49) (v := ?_) (a' := ?_) #[Y,U,Y,U,U,U,U,U] rfl rfl (any_of HT_.out (by kernel_rfl)) (fun _ _ _ h => h) (Or.inl ⟨by rfl, ?_⟩) ?_ ?_
     rotate_left
     ·intro w'
      go_simp
      with_reducible rfl
     rotate_left
     ·simp only [Act.put, sA, sZ, sS, i64_w, i32_w]
      rfl
     refine pure_ (i := 4) (N := some 51) (v := ?_) (a' := ?_) #[Y,U,Y,U,Y,U,U,U] rfl rfl (any_of HT_.out (by kernel_rfl)) (fun _ _ _ h => h) (Or.inl ⟨by rfl, ?_⟩) ?_ ?_
     rotate_left
     ·intro w'
      go_simp
      with_reducible rfl
     rotate_left
     ·simp only [Act.put, sA, sZ, sS, i64_w, i32_w]
      rfl
     refine take_ (i := 1) (N := some 48) (v := ?_) (a' := ?_) #[Y,Y,Y,U,Y,U,U,U] rfl rfl (take_ofW HT_.out HW_.out (by kernel_rfl)) (fun _ _ _ h => h) (Or.inl ⟨by rfl, ?_⟩) hHeld ?_ ?_
     rotate_left
     ·rintro w' ⟨s0, s1, s2, s3, s4, s5, s6, s7, s8, s9, s10, s11, s12⟩
      go_simp
      with_reducible rfl
     rotate_left
     ·simp only [Act.put, sA, sZ, sS, i64_w, i32_w]
      rfl
     refine take_ (i := 3) (N := some 50) (v := ?_) (a' := ?_) #[Y,Y,Y,Y,Y,U,U,U] rfl rfl (take_ofW HT_.out HW_.out (by kernel_rfl)) (fun _ _ _ h => h) (Or.inl ⟨by rfl, ?_⟩) hHeld ?_ ?_
     rotate_left
     ·rintro w' ⟨s0, s1, s2, s3, s4, s5, s6, s7, s8, s9, s10, s11, s12⟩
      go_simp
      with_reducible rfl
     rotate_left
     ·simp only [Act.put, sA, sZ, sS, i64_w, i32_w]
      rfl
     refine one_ (i := 5) (N := some 52) #[Y,Y,Y,Y,Y,Y,U,U] rfl rfl (one_of HT_.out (by kernel_rfl)) (by decide) (fun K hK => ?_)
     refine goes_ Try.func69 (by kernel_rfl) rfl #[.agg #[.bool ((rd_T79 l0_1 x6_1).f0), .bool ((rd_T79 l0_1 x6_1).f1), .int .i64 ((rd_T79 l0_1 x6_1).f2.f0), .int .i64 ((rd_T79 l0_1 x6_1).f2.f1), .int .i64 ((rd_T79 l0_1 x6_1).f2.f2), .int .i64 ((rd_T79 l0_1 x6_1).f2.f3), .int .i64 ((rd_T79 l0_1 x6_1).f3), .int .i64 ((rd_T79 l0_1 x6_1).f4), .int .i64 ((rd_T79 l0_1 x6_1).f5), .int .i64 ((rd_T79 l0_1 x6_1).f6), .bool ((rd_T79 l0_1 x6_1).f7)], .int .i64 2] (by rfl) rfl rfl (by (try simp only [List.map_toArray, List.map_cons, List.map_nil]); first | done | rfl | (simp only [c84b0]; rfl) | (simp only [List.length_drop, List.length_take]; rfl)) ?_
     with_reducible refine (spec_Turn.calls kj47 ((rd_T79 l0_1 x6_1).f0) ((rd_T79 l0_1 x6_1).f1) ((rd_T79 l0_1 x6_1).f2.f0) ((rd_T79 l0_1 x6_1).f2.f1) ((rd_T79 l0_1 x6_1).f2.f2) ((rd_T79 l0_1 x6_1).f2.f3) ((rd_T79 l0_1 x6_1).f3) ((rd_T79 l0_1 x6_1).f4) ((rd_T79 l0_1 x6_1).f5) ((rd_T79 l0_1 x6_1).f6) ((rd_T79 l0_1 x6_1).f7) 2 t240 t241 t242 t243 t244 t245 t246 t247 t248 t249 t250 _ A85.out).mono ?_
     rintro e w94 ⟨rfl, hb⟩
     refine ⟨_, rfl, ?_⟩
     have n0_ := aM (kB (kr HO_206001.out) hb)
     have n1_ := aM (bB (g := gb199) (o := .cells #[.int .i64 a0_0, .slice (some ad209) l0_1.length c0_1] 28 (0, 0)) (bk BK199.out) hb)
     have n2_ := aM (bB (g := gb200) (o := .cells #[.int .i64 0, .slice none 0 0] 28 (0, 0)) (bk BK200.out) hb)
     have n3_ := aM (bB (g := gb205) (o := .cells #[.int .i64 t201, u206001] 28 (0, 0)) (bk BK205.out) hb)
     have n4_ := aM (bB (g := gb210) (o := .cells #[.bool ((rd_T79 l0_1 x6_1).f0), .bool ((rd_T79 l0_1 x6_1).f1), .int .i64 ((rd_T79 l0_1 x6_1).f2.f0), .int .i64 ((rd_T79 l0_1 x6_1).f2.f1), .int .i64 ((rd_T79 l0_1 x6_1).f2.f2), .int .i64 ((rd_T79 l0_1 x6_1).f2.f3), .int .i64 ((rd_T79 l0_1 x6_1).f3), .int .i64 ((rd_T79 l0_1 x6_1).f4), .int .i64 ((rd_T79 l0_1 x6_1).f5), .int .i64 ((rd_T79 l0_1 x6_1).f6), .bool ((rd_T79 l0_1 x6_1).f7)] 79 (0, 0)) (bk BK210.out) hb)
     have n5_ := aM (bS (bl HB.out) hb)
     clear HO_206001 BK199
     clear BK200 BK205
     clear BK210 HB
     have HO_206001 := n0_
     have BK199 := n1_
     have BK200 := n2_
     have BK205 := n3_
     have BK210 := n4_
     have HB := n5_
     clear n0_ n1_ n2_ n3_ n4_ n5_
     (try clear hb)
     (try clear hb2)
     (try clear hk)
     (try clear hi)
     have p88 : 0 ≤ (x6_1 : Int) := of_decide_eq_true (by first | (with_reducible assumption) | assumption)
     have q88 : (x6_1 : Int) < ((x206001_1.length : Int) : Int) := of_decide_eq_true (by first | (with_reducible assumption) | assumption)
     obtain ⟨go88, co88, eo88, gb88, gl88, cl88, HG88⟩ := Kd.R_form HO_206001.out (by omega)
     (first | cases eo88 | (injection eo88 with ea_ en_ ec_; (first | subst ea_ | (injection ea_ with ea_; subst ea_)); subst ec_; clear en_))
     have GB88 := aM gb88
     have GG88 := aM HG88
     clear gb88 gl88 HG88
     obtain ⟨ce88, hcl88, hM88, hcc88, hfr88⟩ := Kd.R_elem HO_206001.out z79 (x6_1 : Int) p88 q88
     obtain rfl := k79_openM hM88
     have hx88_0 : World.cell? _ ⟨go88, (x6_1 : Int).toNat * 11, none⟩ = some (.bool ((rd_T79 x206001_1 x6_1).f0)) := hcc88 0 _ rfl
     have hx88_1 : World.cell? _ ⟨go88, (x6_1 : Int).toNat * 11 + 1, none⟩ = some (.bool ((rd_T79 x206001_1 x6_1).f1)) := hcc88 1 _ rfl
     have hx88_2 : World.cell? _ ⟨go88, (x6_1 : Int).toNat * 11 + 2, none⟩ = some (.int .i64 ((rd_T79 x206001_1 x6_1).f2.f0)) := hcc88 2 _ rfl
     have hx88_3 : World.cell? _ ⟨go88, (x6_1 : Int).toNat * 11 + 3, none⟩ = some (.int .i64 ((rd_T79 x206001_1 x6_1).f2.f1)) := hcc88 3 _ rfl
     have hx88_4 : World.cell? _ ⟨go88, (x6_1 : Int).toNat * 11 + 4, none⟩ = some (.int .i64 ((rd_T79 x206001_1 x6_1).f2.f2)) := hcc88 4 _ rfl
     have hx88_5 : World.cell? _ ⟨go88, (x6_1 : Int).toNat * 11 + 5, none⟩ = some (.int .i64 ((rd_T79 x206001_1 x6_1).f2.f3)) := hcc88 5 _ rfl
     have hx88_6 : World.cell? _ ⟨go88, (x6_1 : Int).toNat * 11 + 6, none⟩ = some (.int .i64 ((rd_T79 x206001_1 x6_1).f3)) := hcc88 6 _ rfl
     have hx88_7 : World.cell? _ ⟨go88, (x6_1 : Int).toNat * 11 + 7, none⟩ = some (.int .i64 ((rd_T79 x206001_1 x6_1).f4)) := hcc88 7 _ rfl
     have hx88_8 : World.cell? _ ⟨go88, (x6_1 : Int).toNat * 11 + 8, none⟩ = some (.int .i64 ((rd_T79 x206001_1 x6_1).f5)) := hcc88 8 _ rfl
     have hx88_9 : World.cell? _ ⟨go88, (x6_1 : Int).toNat * 11 + 9, none⟩ = some (.int .i64 ((rd_T79 x206001_1 x6_1).f6)) := hcc88 9 _ rfl
     have hx88_10 : World.cell? _ ⟨go88, (x6_1 : Int).toNat * 11 + 10, none⟩ = some (.bool ((rd_T79 x206001_1 x6_1).f7)) := hcc88 10 _ rfl
     have hf88_0 : World.frozen? _ ⟨go88, (x6_1 : Int).toNat * 11, none⟩ = false := hfr88 0
     have hf88_1 : World.frozen? _ ⟨go88, (x6_1 : Int).toNat * 11 + 1, none⟩ = false := hfr88 1
     have hf88_2 : World.frozen? _ ⟨go88, (x6_1 : Int).toNat * 11 + 2, none⟩ = false := hfr88 2
     have hf88_3 : World.frozen? _ ⟨go88, (x6_1 : Int).toNat * 11 + 3, none⟩ = false := hfr88 3
     have hf88_4 : World.frozen? _ ⟨go88, (x6_1 : Int).toNat * 11 + 4, none⟩ = false := hfr88 4
     have hf88_5 : World.frozen? _ ⟨go88, (x6_1 : Int).toNat * 11 + 5, none⟩ = false := hfr88 5
     have hf88_6 : World.frozen? _ ⟨go88, (x6_1 : Int).toNat * 11 + 6, none⟩ = false := hfr88 6
     have hf88_7 : World.frozen? _ ⟨go88, (x6_1 : Int).toNat * 11 + 7, none⟩ = false := hfr88 7
     have hf88_8 : World.frozen? _ ⟨go88, (x6_1 : Int).toNat * 11 + 8, none⟩ = false := hfr88 8
     have hf88_9 : World.frozen? _ ⟨go88, (x6_1 : Int).toNat * 11 + 9, none⟩ = false := hfr88 9
     have hf88_10 : World.frozen? _ ⟨go88, (x6_1 : Int).toNat * 11 + 10, none⟩ = false := hfr88 10
     clear hcl88 hcc88 hfr88 hM88
     replace p88 := eq_true p88
     replace q88 := eq_true q88
     obtain ⟨ce95, hcl95, hM95, hcc95, hfr95⟩ := Kd.R_elem HO_206001.out z79 (x6_1 : Int) (of_decide_eq_true (by first | (with_reducible assumption) | assumption)) (by have h_ : (x6_1 : Int) < ((x206001_1.length : Int) : Int) := of_decide_eq_true (by first | (with_reducible assumption) | assumption); first | exact h_ | (have e_ := (Kd.R_reads' HO_206001.out).1; omega) | simpa using h_)
     obtain rfl := k79_openM hM95
     have HP95 := (Kd.R_seg HO_206001.out (x6_1 : Int) (of_decide_eq_true (by first | (with_reducible assumption) | assumption)) (by have h_ : (x6_1 : Int) < ((x206001_1.length : Int) : Int) := of_decide_eq_true (by first | (with_reducible assumption) | assumption); first | exact h_ | (have e_ := (Kd.R_reads' HO_206001.out).1; omega) | simpa using h_) (seg := [.bool t240, .bool t241, .int .i64 t242, .int .i64 t243, .int .i64 t244, .int .i64 t245, .int .i64 t246, .int .i64 t247, .int .i64 t248, .int .i64 t249, .bool t250]) (j := 0) hcl95 hcc95 (show 11 ≤ 11 from by decide) (x' := (⟨t240, t241, (⟨t242, t243, t244, t245⟩ : S73), t246, t247, t248, t249, t250⟩ : S79)) (k79_mkM _ _ _ (⟨t240, t241, (⟨t242, t243, t244, t245⟩ : S73), t246, t247, t248, t249, t250⟩ : S79) ) (fun _ hk => hk)).1
     rw [← Ny251.out] at HP95
     have HQ95 := aM HP95
     clear hcl95 hcc95 hfr95 hM95 HP95
     refine hK.out _ _ ⟨cI BK205.out 0, cI BK205.out 1, cI BK210.out 0, cI BK210.out 1, cI BK210.out 2, cI BK210.out 3, cI BK210.out 4, cI BK210.out 5, cI BK210.out 6, cI BK210.out 7, cI BK210.out 8, cI BK210.out 9, cI BK210.out 10⟩ (fun hHeld => ?_)
     clear hK K
     refine norm_ (a' := ?_) ?_ ?_
     rotate_left
     ·show Act.put _ (some 52) _ = _
      simp only [Act.put, sA, sZ, sS, i64_w, i32_w]
      rfl
     refine pure_ (i := 6) (N := some 53) (v := ?_) (a' := ?_) #[Y,Y,Y,Y,Y,Y,Y,U] rfl rfl (any_of HT_.out (by kernel_rfl)) (fun _ _ _ h => h) (Or.inl ⟨by rfl, ?_⟩) ?_ ?_
     rotate_left
     ·intro w'
      go_simp
      with_reducible rfl
     rotate_left
     ·simp only [Act.put, sA, sZ, sS, i64_w, i32_w]
      rfl
     refine last_ (i := 7) (N := none) #[Y,Y,Y,Y,Y,Y,Y,Y] rfl rfl (one_of HT_.out (by kernel_rfl)) (by decide) (fun K hK => ?_)
     refine skip_ (w1 := ?_) (by rfl) rfl ?_ ?_
     rotate_left
     ·go_simp
      rfl
     refine hK.out _ _ ?_
     clear hK K
     refine done_ (done_of HT_.out (by kernel_rfl)) ?_
     try go_wp2
     go_roundg kj47
     case measure => have := HK1.out; have := HJ47.out; omega
     case rel => (try rw [← Nbq23.out]); (try rw [← Nbq57.out]); exact ⟨(wrap64 (x6_1 + 1)), (y251), (.slice (some ⟨go88, 0, none⟩) x206001_1.length co88), xE, H', ⟨by have := HK1.out; have := HJ47.out; omega⟩, ⟨kr (Kd.R_mono HQ95.out (fun _ hk => trivial))⟩, ⟨by (with_reducible repeat (first | refine blk_drewN ?_ _ | refine blk_drew ?_ | refine blk_alloc ?_ _)); refine blk_far ?_ (by have h_ := Kd.R_ne HO_206001.out BK199.out (by decide); intro e_; exact h_ (by rw [e_]; rfl)) _; (with_reducible repeat (first | refine blk_drewN ?_ _ | refine blk_drew ?_ | refine blk_alloc ?_ _)); refine blk_far ?_ (by have h_ := Kd.R_ne HO_206001.out BK199.out (by decide); intro e_; exact h_ (by rw [e_]; rfl)) _; (with_reducible repeat (first | refine blk_drewN ?_ _ | refine blk_drew ?_ | refine blk_alloc ?_ _)); refine blk_far ?_ (by have h_ := Kd.R_ne HO_206001.out BK199.out (by decide); intro e_; exact h_ (by rw [e_]; rfl)) _; (with_reducible repeat (first | refine blk_drewN ?_ _ | refine blk_drew ?_ | refine blk_alloc ?_ _)); refine blk_far ?_ (by have h_ := Kd.R_ne HO_206001.out BK199.out (by decide); intro e_; exact h_ (by rw [e_]; rfl)) _; (with_reducible repeat (first | refine blk_drewN ?_ _ | refine blk_drew ?_ | refine blk_alloc ?_ _)); refine blk_far ?_ (by have h_ := Kd.R_ne HO_206001.out BK199.out (by decide); intro e_; exact h_ (by rw [e_]; rfl)) _; (with_reducible repeat (first | refine blk_drewN ?_ _ | refine blk_drew ?_ | refine blk_alloc ?_ _)); refine blk_far ?_ (by have h_ := Kd.R_ne HO_206001.out BK199.out (by decide); intro e_; exact h_ (by rw [e_]; rfl)) _; (with_reducible repeat (first | refine blk_drewN ?_ _ | refine blk_drew ?_ | refine blk_alloc ?_ _)); refine blk_far ?_ (by have h_ := Kd.R_ne HO_206001.out BK199.out (by decide); intro e_; exact h_ (by rw [e_]; rfl)) _; (with_reducible repeat (first | refine blk_drewN ?_ _ | refine blk_drew ?_ | refine blk_alloc ?_ _)); refine blk_far ?_ (by have h_ := Kd.R_ne HO_206001.out BK199.out (by decide); intro e_; exact h_ (by rw [e_]; rfl)) _; (with_reducible repeat (first | refine blk_drewN ?_ _ | refine blk_drew ?_ | refine blk_alloc ?_ _)); refine blk_far ?_ (by have h_ := Kd.R_ne HO_206001.out BK199.out (by decide); intro e_; exact h_ (by rw [e_]; rfl)) _; (with_reducible repeat (first | refine blk_drewN ?_ _ | refine blk_drew ?_ | refine blk_alloc ?_ _)); refine blk_far ?_ (by have h_ := Kd.R_ne HO_206001.out BK199.out (by decide); intro e_; exact h_ (by rw [e_]; rfl)) _; (with_reducible repeat (first | refine blk_drewN ?_ _ | refine blk_drew ?_ | refine blk_alloc ?_ _)); refine blk_far ?_ (by have h_ := Kd.R_ne HO_206001.out BK199.out (by decide); intro e_; exact h_ (by rw [e_]; rfl)) _; (with_reducible repeat (first | refine blk_drewN ?_ _ | refine blk_drew ?_ | refine blk_alloc ?_ _)); exact BK199.out⟩, ⟨by (with_reducible repeat (first | refine blk_drewN ?_ _ | refine blk_drew ?_ | refine blk_alloc ?_ _)); refine blk_far ?_ (by have h_ := Kd.R_ne HO_206001.out BK200.out (by decide); intro e_; exact h_ (by rw [e_]; rfl)) _; (with_reducible repeat (first | refine blk_drewN ?_ _ | refine blk_drew ?_ | refine blk_alloc ?_ _)); refine blk_far ?_ (by have h_ := Kd.R_ne HO_206001.out BK200.out (by decide); intro e_; exact h_ (by rw [e_]; rfl)) _; (with_reducible repeat (first | refine blk_drewN ?_ _ | refine blk_drew ?_ | refine blk_alloc ?_ _)); refine blk_far ?_ (by have h_ := Kd.R_ne HO_206001.out BK200.out (by decide); intro e_; exact h_ (by rw [e_]; rfl)) _; (with_reducible repeat (first | refine blk_drewN ?_ _ | refine blk_drew ?_ | refine blk_alloc ?_ _)); refine blk_far ?_ (by have h_ := Kd.R_ne HO_206001.out BK200.out (by decide); intro e_; exact h_ (by rw [e_]; rfl)) _; (with_reducible repeat (first | refine blk_drewN ?_ _ | refine blk_drew ?_ | refine blk_alloc ?_ _)); refine blk_far ?_ (by have h_ := Kd.R_ne HO_206001.out BK200.out (by decide); intro e_; exact h_ (by rw [e_]; rfl)) _; (with_reducible repeat (first | refine blk_drewN ?_ _ | refine blk_drew ?_ | refine blk_alloc ?_ _)); refine blk_far ?_ (by have h_ := Kd.R_ne HO_206001.out BK200.out (by decide); intro e_; exact h_ (by rw [e_]; rfl)) _; (with_reducible repeat (first | refine blk_drewN ?_ _ | refine blk_drew ?_ | refine blk_alloc ?_ _)); refine blk_far ?_ (by have h_ := Kd.R_ne HO_206001.out BK200.out (by decide); intro e_; exact h_ (by rw [e_]; rfl)) _; (with_reducible repeat (first | refine blk_drewN ?_ _ | refine blk_drew ?_ | refine blk_alloc ?_ _)); refine blk_far ?_ (by have h_ := Kd.R_ne HO_206001.out BK200.out (by decide); intro e_; exact h_ (by rw [e_]; rfl)) _; (with_reducible repeat (first | refine blk_drewN ?_ _ | refine blk_drew ?_ | refine blk_alloc ?_ _)); refine blk_far ?_ (by have h_ := Kd.R_ne HO_206001.out BK200.out (by decide); intro e_; exact h_ (by rw [e_]; rfl)) _; (with_reducible repeat (first | refine blk_drewN ?_ _ | refine blk_drew ?_ | refine blk_alloc ?_ _)); refine blk_far ?_ (by have h_ := Kd.R_ne HO_206001.out BK200.out (by decide); intro e_; exact h_ (by rw [e_]; rfl)) _; (with_reducible repeat (first | refine blk_drewN ?_ _ | refine blk_drew ?_ | refine blk_alloc ?_ _)); refine blk_far ?_ (by have h_ := Kd.R_ne HO_206001.out BK200.out (by decide); intro e_; exact h_ (by rw [e_]; rfl)) _; (with_reducible repeat (first | refine blk_drewN ?_ _ | refine blk_drew ?_ | refine blk_alloc ?_ _)); exact BK200.out⟩, ⟨by (with_reducible repeat (first | refine blk_drewN ?_ _ | refine blk_drew ?_ | refine blk_alloc ?_ _)); refine blk_far ?_ (by have h_ := Kd.R_ne HO_206001.out BK205.out (by decide); intro e_; exact h_ (by rw [e_]; rfl)) _; (with_reducible repeat (first | refine blk_drewN ?_ _ | refine blk_drew ?_ | refine blk_alloc ?_ _)); refine blk_far ?_ (by have h_ := Kd.R_ne HO_206001.out BK205.out (by decide); intro e_; exact h_ (by rw [e_]; rfl)) _; (with_reducible repeat (first | refine blk_drewN ?_ _ | refine blk_drew ?_ | refine blk_alloc ?_ _)); refine blk_far ?_ (by have h_ := Kd.R_ne HO_206001.out BK205.out (by decide); intro e_; exact h_ (by rw [e_]; rfl)) _; (with_reducible repeat (first | refine blk_drewN ?_ _ | refine blk_drew ?_ | refine blk_alloc ?_ _)); refine blk_far ?_ (by have h_ := Kd.R_ne HO_206001.out BK205.out (by decide); intro e_; exact h_ (by rw [e_]; rfl)) _; (with_reducible repeat (first | refine blk_drewN ?_ _ | refine blk_drew ?_ | refine blk_alloc ?_ _)); refine blk_far ?_ (by have h_ := Kd.R_ne HO_206001.out BK205.out (by decide); intro e_; exact h_ (by rw [e_]; rfl)) _; (with_reducible repeat (first | refine blk_drewN ?_ _ | refine blk_drew ?_ | refine blk_alloc ?_ _)); refine blk_far ?_ (by have h_ := Kd.R_ne HO_206001.out BK205.out (by decide); intro e_; exact h_ (by rw [e_]; rfl)) _; (with_reducible repeat (first | refine blk_drewN ?_ _ | refine blk_drew ?_ | refine blk_alloc ?_ _)); refine blk_far ?_ (by have h_ := Kd.R_ne HO_206001.out BK205.out (by decide); intro e_; exact h_ (by rw [e_]; rfl)) _; (with_reducible repeat (first | refine blk_drewN ?_ _ | refine blk_drew ?_ | refine blk_alloc ?_ _)); refine blk_far ?_ (by have h_ := Kd.R_ne HO_206001.out BK205.out (by decide); intro e_; exact h_ (by rw [e_]; rfl)) _; (with_reducible repeat (first | refine blk_drewN ?_ _ | refine blk_drew ?_ | refine blk_alloc ?_ _)); refine blk_far ?_ (by have h_ := Kd.R_ne HO_206001.out BK205.out (by decide); intro e_; exact h_ (by rw [e_]; rfl)) _; (with_reducible repeat (first | refine blk_drewN ?_ _ | refine blk_drew ?_ | refine blk_alloc ?_ _)); refine blk_far ?_ (by have h_ := Kd.R_ne HO_206001.out BK205.out (by decide); intro e_; exact h_ (by rw [e_]; rfl)) _; (with_reducible repeat (first | refine blk_drewN ?_ _ | refine blk_drew ?_ | refine blk_alloc ?_ _)); refine blk_far ?_ (by have h_ := Kd.R_ne HO_206001.out BK205.out (by decide); intro e_; exact h_ (by rw [e_]; rfl)) _; (with_reducible repeat (first | refine blk_drewN ?_ _ | refine blk_drew ?_ | refine blk_alloc ?_ _)); exact BK205.out⟩, ⟨by repeat (first | (with_reducible first | exact HB.out | apply below_alloc | apply pw_below_drewN | apply below_drew1 | refine below_set ?_ GB88.out | refine below_set ?_ GB88.out | refine below_set ?_ GB88.out | refine below_set ?_ GB88.out | refine below_set ?_ GB88.out | refine below_set ?_ GB88.out | refine below_set ?_ GB88.out | refine below_set ?_ GB88.out | refine below_set ?_ GB88.out | refine below_set ?_ GB88.out | refine below_set ?_ GB88.out | refine below_set ?_ GE199.out | refine below_set ?_ GE200.out | refine below_set ?_ GE205.out | refine below_set ?_ GE210.out) | exact HB.out)⟩⟩

end Go.Proofs.Ythmijfekdeagpaa.PFnExactDecide
