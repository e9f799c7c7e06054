/- A part of the proof of laws.FnFrames. No condition beyond what its theorems say. -/
import Derived.Test.YtaoipjdmmamkmaaVFnFramesPx3
namespace Go.Proofs.Ytaoipjdmmamkmaa.PFnFrames
open Go.RowKit Go.Proofs.YtaoipjdmmamkmaaW.PrintWords Go.Proofs.YtaoipjdmmamkmaaW.PrintLast Go.Proofs.YtaoipjdmmamkmaaW.PrintMore
set_option linter.unusedVariables false
set_option linter.unusedSimpArgs false

def impl_reader_num.f (k : Nat) (s0_0 : List Int) (s0_1 : Int) (s0_2 : Bool) : Option (Int × Int × Bool) := (impl_GetNum.f k s0_0 s0_1).bind fun bt314 => (if s0_2 = true then (some (0, s0_1, true)) else (if bt314.2.2 = true then (some (bt314.1, bt314.2.1, s0_2)) else (some (0, s0_1, true))))
theorem impl_reader_num.mono : ∀ a0 a1 a2 k, LeO (impl_reader_num.f k a0 a1 a2) (impl_reader_num.f (k + 1) a0 a1 a2) := by
 intro a0 a1 a2 k
 unfold impl_reader_num.f
 repeat' first
   | (with_reducible exact impl_GetNum.mono _ _ _)
   | (with_reducible exact LeO.refl _)
   | (with_reducible exact LeO.none _)
   | (with_reducible refine LeO.ite ?_ ?_)
   | (with_reducible refine LeO.bind ?_ (fun _ => ?_))
   | exact impl_GetNum.mono _ _ _
   | exact LeO.none _
   | refine LeO.ite ?_ ?_
   | refine LeO.bind ?_ (fun _ => ?_)
set_option maxHeartbeats 60000000 in
set_option maxRecDepth 100000 in
theorem impl_reader_num.calls (k : Nat) (g : Nat) (s0_0 : List Int) (s0_1 : Int) (s0_2 : Bool) (r1 : Int) (r2 : Int) (r3 : Bool) (w0 w : World) (hI : IsS64 w0 w g s0_0 s0_1 s0_2) (hB : Below w0.heap.size w0 w) (h : impl_reader_num.f k s0_0 s0_1 s0_2 = some (r1, r2, r3)) :
  Calls Try.prog 46 #[.pointer (some ⟨g, 0, none⟩)] w fun e w' => e = .returned (.int .i64 r1) ∧ IsS64 w0 w' g s0_0 r2 r3 ∧ Below w0.heap.size w0 w' ∧ KeepBut w w' g none := by
 have HI0 := aM hI
 have HK := aM (KeepBut.refl w g none)
 have HL := aM hB.size
 clear hI
 have HW0 := aM hB.size
 have HB := aM hB
 clear hB
 have H : ((impl_GetNum.f k s0_0 s0_1).bind fun bt314 => (if s0_2 = true then (some (0, s0_1, true)) else (if bt314.2.2 = true then (some (bt314.1, bt314.2.1, s0_2)) else (some (0, s0_1, true))))) = some (r1, r2, r3) := h
 clear h
 replace H := Option.bind_eq_some_iff.mp H
 obtain ⟨⟨t314, t315, t316⟩, A20, H⟩ := H
 replace H : (if s0_2 = true then (some (0, s0_1, true)) else (if t316 = true then (some (t314, t315, s0_2)) else (some (0, s0_1, true)))) = some (r1, r2, r3) := H
 have A2 := aM A20
 clear A20
 by_cases c3 : s0_2 = true
 case pos =>
  subst c3
  have H1 : (some (0, s0_1, true)) = some (r1, r2, r3) := by rw [if_pos rfl] at H; exact H
  clear H
  have H := H1
  clear H1
  simp only [Option.some.injEq, Prod.mk.injEq] at H
  obtain ⟨rfl, rfl, rfl⟩ := H
  obtain ⟨ASz4_0, cSz4_0, HGz4, hgz4, HSz4_0⟩ := HI0.out
  have hcz4_0 := cellS64_0 HGz4
  have hcz4_1 := cellS64_1 HGz4
  have hcz4_2 := cellS64_2 HGz4
  have hfz4_1 := bF HGz4 1
  have hfz4_2 := bF HGz4 2
  clear HGz4 hgz4
  go_enter Try.func46, Try.ntmps46
  go_wp2_with (first | (go_at_call 76; (with_reducible refine (impl_GetNum.calls k _ _ s0_0 s0_1 t314 t315 t316 _ ?side1 ?side2 A2.out).mono ?_); (case side1 => repeat (first | exact (cB HSz4_0.1 HB.out) | (with_reducible refine Kd.C_alloc ?_ _) | (with_reducible refine Kd.C_drewN ?_ _) | (with_reducible refine Kd.C_drew ?_))); (case side2 => exact HSz4_0.2); rintro e w' ⟨rfl, ⟨nd, rfl⟩⟩; (try first | exact ⟨rfl, _, World.drewN_drewN _ _ _⟩ | exact ⟨rfl, _, Eq.trans (World.drewN_drewN _ _ _) (congrArg (World.drewN _) (Nat.add_assoc _ _ _))⟩)))
  repeat (go_quiet (first | (go_at_call 76; (with_reducible refine (impl_GetNum.calls k _ _ s0_0 s0_1 t314 t315 t316 _ ?side1 ?side2 A2.out).mono ?_); (case side1 => repeat (first | exact (cB HSz4_0.1 HB.out) | (with_reducible refine Kd.C_alloc ?_ _) | (with_reducible refine Kd.C_drewN ?_ _) | (with_reducible refine Kd.C_drew ?_))); (case side2 => exact HSz4_0.2); rintro e w' ⟨rfl, ⟨nd, rfl⟩⟩; (try first | exact ⟨rfl, _, World.drewN_drewN _ _ _⟩ | exact ⟨rfl, _, Eq.trans (World.drewN_drewN _ _ _) (congrArg (World.drewN _) (Nat.add_assoc _ _ _))⟩))); try go_wp2_with (first | (go_at_call 76; (with_reducible refine (impl_GetNum.calls k _ _ s0_0 s0_1 t314 t315 t316 _ ?side1 ?side2 A2.out).mono ?_); (case side1 => repeat (first | exact (cB HSz4_0.1 HB.out) | (with_reducible refine Kd.C_alloc ?_ _) | (with_reducible refine Kd.C_drewN ?_ _) | (with_reducible refine Kd.C_drew ?_))); (case side2 => exact HSz4_0.2); rintro e w' ⟨rfl, ⟨nd, rfl⟩⟩; (try first | exact ⟨rfl, _, World.drewN_drewN _ _ _⟩ | exact ⟨rfl, _, Eq.trans (World.drewN_drewN _ _ _) (congrArg (World.drewN _) (Nat.add_assoc _ _ _))⟩))))
  go_ret
  exact ⟨xW, by repeat (first | (with_reducible first | exact HI0.out | apply IsS64.alloc | apply IsS64.drewN | apply IsS64.drew | apply IsS64.set_1 | apply IsS64.set_2) | exact HI0.out), by repeat (first | (with_reducible first | exact HB.out | apply below_alloc | apply pw_below_drewN | apply below_drew1 | refine below_set ?_ (IsS64.ge HI0.out)) | exact HB.out), by repeat (first | (with_reducible first | exact HK.out | apply KeepBut.set_ | apply keep_drewN | apply keep_drew | apply keep_alloc) | exact HK.out)⟩
 replace c3 := Bool.eq_false_iff.mpr c3
 subst c3
 have H1 : (if t316 = true then (some (t314, t315, false)) else (some (0, s0_1, true))) = some (r1, r2, r3) := by rw [if_neg (show ¬ (false = true) by decide)] at H; exact H
 clear H
 have H := H1
 clear H1
 by_cases c5 : t316 = true
 case pos =>
  subst c5
  have H1 : (some (t314, t315, false)) = some (r1, r2, r3) := by rw [if_pos rfl] at H; exact H
  clear H
  have H := H1
  clear H1
  simp only [Option.some.injEq, Prod.mk.injEq] at H
  obtain ⟨rfl, rfl, rfl⟩ := H
  obtain ⟨ASz6_0, cSz6_0, HGz6, hgz6, HSz6_0⟩ := HI0.out
  have hcz6_0 := cellS64_0 HGz6
  have hcz6_1 := cellS64_1 HGz6
  have hcz6_2 := cellS64_2 HGz6
  have hfz6_1 := bF HGz6 1
  have hfz6_2 := bF HGz6 2
  clear HGz6 hgz6
  go_enter Try.func46, Try.ntmps46
  go_wp2_with (first | (go_at_call 76; (with_reducible refine (impl_GetNum.calls k _ _ s0_0 s0_1 t314 t315 true _ ?side1 ?side2 A2.out).mono ?_); (case side1 => repeat (first | exact (cB HSz6_0.1 HB.out) | (with_reducible refine Kd.C_alloc ?_ _) | (with_reducible refine Kd.C_drewN ?_ _) | (with_reducible refine Kd.C_drew ?_))); (case side2 => exact HSz6_0.2); rintro e w' ⟨rfl, ⟨nd, rfl⟩⟩; (try first | exact ⟨rfl, _, World.drewN_drewN _ _ _⟩ | exact ⟨rfl, _, Eq.trans (World.drewN_drewN _ _ _) (congrArg (World.drewN _) (Nat.add_assoc _ _ _))⟩)))
  repeat (go_quiet (first | (go_at_call 76; (with_reducible refine (impl_GetNum.calls k _ _ s0_0 s0_1 t314 t315 true _ ?side1 ?side2 A2.out).mono ?_); (case side1 => repeat (first | exact (cB HSz6_0.1 HB.out) | (with_reducible refine Kd.C_alloc ?_ _) | (with_reducible refine Kd.C_drewN ?_ _) | (with_reducible refine Kd.C_drew ?_))); (case side2 => exact HSz6_0.2); rintro e w' ⟨rfl, ⟨nd, rfl⟩⟩; (try first | exact ⟨rfl, _, World.drewN_drewN _ _ _⟩ | exact ⟨rfl, _, Eq.trans (World.drewN_drewN _ _ _) (congrArg (World.drewN _) (Nat.add_assoc _ _ _))⟩))); try go_wp2_with (first | (go_at_call 76; (with_reducible refine (impl_GetNum.calls k _ _ s0_0 s0_1 t314 t315 true _ ?side1 ?side2 A2.out).mono ?_); (case side1 => repeat (first | exact (cB HSz6_0.1 HB.out) | (with_reducible refine Kd.C_alloc ?_ _) | (with_reducible refine Kd.C_drewN ?_ _) | (with_reducible refine Kd.C_drew ?_))); (case side2 => exact HSz6_0.2); rintro e w' ⟨rfl, ⟨nd, rfl⟩⟩; (try first | exact ⟨rfl, _, World.drewN_drewN _ _ _⟩ | exact ⟨rfl, _, Eq.trans (World.drewN_drewN _ _ _) (congrArg (World.drewN _) (Nat.add_assoc _ _ _))⟩))))
  go_ret
  exact ⟨xW, by repeat (first | (with_reducible first | exact HI0.out | apply IsS64.alloc | apply IsS64.drewN | apply IsS64.drew | apply IsS64.set_1 | apply IsS64.set_2) | exact HI0.out), by repeat (first | (with_reducible first | exact HB.out | apply below_alloc | apply pw_below_drewN | apply below_drew1 | refine below_set ?_ (IsS64.ge HI0.out)) | exact HB.out), by repeat (first | (with_reducible first | exact HK.out | apply KeepBut.set_ | apply keep_drewN | apply keep_drew | apply keep_alloc) | exact HK.out)⟩
 replace c5 := Bool.eq_false_iff.mpr c5
 subst c5
 have H1 : (some (0, s0_1, true)) = some (r1, r2, r3) := by rw [if_neg (show ¬ (false = true) by decide)] at H; exact H
 clear H
 have H := H1
 clear H1
 simp only [Option.some.injEq, Prod.mk.injEq] at H
 obtain ⟨rfl, rfl, rfl⟩ := H
 obtain ⟨ASz7_0, cSz7_0, HGz7, hgz7, HSz7_0⟩ := HI0.out
 have hcz7_0 := cellS64_0 HGz7
 have hcz7_1 := cellS64_1 HGz7
 have hcz7_2 := cellS64_2 HGz7
 have hfz7_1 := bF HGz7 1
 have hfz7_2 := bF HGz7 2
 clear HGz7 hgz7
 go_enter Try.func46, Try.ntmps46
 go_wp2_with (first | (go_at_call 76; (with_reducible refine (impl_GetNum.calls k _ _ s0_0 s0_1 t314 t315 false _ ?side1 ?side2 A2.out).mono ?_); (case side1 => repeat (first | exact (cB HSz7_0.1 HB.out) | (with_reducible refine Kd.C_alloc ?_ _) | (with_reducible refine Kd.C_drewN ?_ _) | (with_reducible refine Kd.C_drew ?_))); (case side2 => exact HSz7_0.2); rintro e w' ⟨rfl, ⟨nd, rfl⟩⟩; (try first | exact ⟨rfl, _, World.drewN_drewN _ _ _⟩ | exact ⟨rfl, _, Eq.trans (World.drewN_drewN _ _ _) (congrArg (World.drewN _) (Nat.add_assoc _ _ _))⟩)))
 repeat (go_quiet (first | (go_at_call 76; (with_reducible refine (impl_GetNum.calls k _ _ s0_0 s0_1 t314 t315 false _ ?side1 ?side2 A2.out).mono ?_); (case side1 => repeat (first | exact (cB HSz7_0.1 HB.out) | (with_reducible refine Kd.C_alloc ?_ _) | (with_reducible refine Kd.C_drewN ?_ _) | (with_reducible refine Kd.C_drew ?_))); (case side2 => exact HSz7_0.2); rintro e w' ⟨rfl, ⟨nd, rfl⟩⟩; (try first | exact ⟨rfl, _, World.drewN_drewN _ _ _⟩ | exact ⟨rfl, _, Eq.trans (World.drewN_drewN _ _ _) (congrArg (World.drewN _) (Nat.add_assoc _ _ _))⟩))); try go_wp2_with (first | (go_at_call 76; (with_reducible refine (impl_GetNum.calls k _ _ s0_0 s0_1 t314 t315 false _ ?side1 ?side2 A2.out).mono ?_); (case side1 => repeat (first | exact (cB HSz7_0.1 HB.out) | (with_reducible refine Kd.C_alloc ?_ _) | (with_reducible refine Kd.C_drewN ?_ _) | (with_reducible refine Kd.C_drew ?_))); (case side2 => exact HSz7_0.2); rintro e w' ⟨rfl, ⟨nd, rfl⟩⟩; (try first | exact ⟨rfl, _, World.drewN_drewN _ _ _⟩ | exact ⟨rfl, _, Eq.trans (World.drewN_drewN _ _ _) (congrArg (World.drewN _) (Nat.add_assoc _ _ _))⟩))))
 go_ret
 exact ⟨xW, by repeat (first | (with_reducible first | exact HI0.out | apply IsS64.alloc | apply IsS64.drewN | apply IsS64.drew | apply IsS64.set_1 | apply IsS64.set_2) | exact HI0.out), by repeat (first | (with_reducible first | exact HB.out | apply below_alloc | apply pw_below_drewN | apply below_drew1 | refine below_set ?_ (IsS64.ge HI0.out)) | exact HB.out), by repeat (first | (with_reducible first | exact HK.out | apply KeepBut.set_ | apply keep_drewN | apply keep_drew | apply keep_alloc) | exact HK.out)⟩

def slices_Clone_byte_byte.f (l0 : List Int) : Option (List Int) := (some (([] : List Int) : List Int)).bind fun y317 => (if y317.length + l0.length < 140737488355328 then (some (y317 ++ l0)) else (none))
set_option maxHeartbeats 60000000 in
set_option maxRecDepth 100000 in
theorem slices_Clone_byte_byte.calls (A0 : Option Addr) (c0 : Nat) (l0 : List Int) (r : List Int) (w : World) (hr0 : Kd.C (Kd.int .u8) w A0 l0.length l0) (hc0 : l0.length ≤ c0) (h : slices_Clone_byte_byte.f l0 = some r) :
  Calls Try.prog 47 #[.slice A0 l0.length c0] w fun e w' => ∃ v0_ : Value, e = .returned (v0_) ∧ Kd.R (Kd.int .u8) 5 w' w.heap.size (fun _ => True) v0_ r ∧ Below w.heap.size w w' := by
 have qn : ∀ (w : World) (a : Option Addr) (n c n' c' : Nat), (binOp .eql 22 (.slice a n c) (.slice none n' c')).run Try.prog w = .ok (.bool a.isNone) w := fun w a n c n' c' => Lib.run_eql_slice_nil w _ _ a n c n' c' Try.underlying22
 by_cases hnil : A0 = none
 ·have hl : l0 = [] := by
   have hc := hr0.2.2
   rw [hnil] at hc
   cases l0 with
   | nil => rfl
   | cons x t => obtain ⟨_, hx, _⟩ := hc (by simp); cases hx
  subst hnil
  subst hl
  have hr : r = [] := by simpa [slices_Clone_byte_byte.f] using h.symm
  subst hr
  clear hr0 h
  go_enter Try.func47, Try.ntmps47
  go_wp2
  go_ret
  exact ⟨_, rfl, Kd.R_nil _ _ _ _ _, Below.refl _ _⟩
 have hsome : A0.isNone = false := by cases A0 <;> simp at hnil ⊢
 clear hnil
 have HR0 := aM hr0
 have HC0 := aM hc0
 clear hr0 hc0
 have HB := aM (Below.refl w.heap.size w)
 have H : ((some (([] : List Int) : List Int)).bind fun y317 => (if y317.length + l0.length < 140737488355328 then (some (y317 ++ l0)) else (none))) = some r := h
 clear h
 obtain ⟨y317, hy317⟩ : ∃ y_ : List Int, y_ = (([] : List Int)) := ⟨_, rfl⟩
 replace H : (if y317.length + l0.length < 140737488355328 then (some (y317 ++ l0)) else (none)) = some r := by first | (rw [hy317]; with_reducible exact H) | (have H2_ := (Option.bind_some _ _).symm.trans H; rw [hy317]; with_reducible exact H2_) | (have H2_ := (Option.bind_some _ _).symm.trans H; with_reducible exact H2_) | with_reducible exact H | (rw [hy317]; exact H) | exact H
 have Ny317 := aM hy317
 clear hy317
 by_cases c2 : y317.length + l0.length < 140737488355328
 case neg =>
  rw [if_neg c2] at H
  exact absurd H (by simp)
 rw [if_pos c2] at H
 have LMc2 := aM c2
 clear c2
 obtain ⟨y320, hy320⟩ : ∃ y_ : List Int, y_ = (y317 ++ l0) := ⟨_, rfl⟩
 replace H : (some y320) = some r := by first | (rw [hy320]; with_reducible exact H) | (have H2_ := (Option.bind_some _ _).symm.trans H; rw [hy320]; with_reducible exact H2_) | (have H2_ := (Option.bind_some _ _).symm.trans H; with_reducible exact H2_) | with_reducible exact H | (rw [hy320]; exact H) | exact H
 have Ny320 := aM hy320
 clear hy320
 obtain rfl := Option.some.inj H
 go_enter Try.func47, Try.ntmps47
 go_wp2_with (first | ((with_reducible refine gate_dst (N := 5) rfl ?_); refine Kd.R_lit (Kd.int .u8) _ 5 ?hg (N := 5) ?hd (xs := ([] : List Int)) (inner := []) (ok := fun _ => True) (okp := fun _ => True) ?hr ?hp (fun _ hk => hk) trivial (Below.refl _ _) (Nat.le_refl _) (by simp) ?_; (case hd => rfl); (case hg => rfl); (case hr => first | (go_simp; done) | (go_simp; rfl) | (obtain ⟨A_, c_, e_⟩ := Kd.R_slice HO319.out; subst e_; (first | (go_simp; done) | (go_simp; rfl))) | (obtain ⟨A_, c_, e_⟩ := Kd.S_slice HO319.out; subst e_; (first | (go_simp; done) | (go_simp; rfl)))); (case hp => exact (Reps.none _ _)); intro v318 w3 ho4 hb hg_ hnew_; clear hg_ hnew_; (first | rw [← Ny317.out] at ho4 | (simp only [Int.reduceToNat] at ho4; rw [← Ny317.out] at ho4)); have n0_ := aM (Kd.R_lower ho4 (below_size (bl HB.out))); have n1_ := aM (bS (bl HB.out) hb); clear HB; have HO319 := n0_; have HB := n1_; clear n0_ n1_; clear hb ho4) | ((with_reducible refine gate_builtin (b := .append) (xs := #[.tmp 5, .tmp 6]) rfl ?_); at_builtin; refine Kd.R_append_rows (Kd.int .u8) (w0 := w) w.heap.size rfl (.tmp 5) (.tmp 6) 22 5 (.int .u8 0) 1 rfl Try.underlying22 info5 rfl (by decide) (by omega) v318 y317 l0 _ _ _ (fun _ => True) (fun _ => False) rfl rfl ?aO ?aR (fun _ _ h => h) (fun _ h => h.elim) ?aF ?aB ?aS ?aL ?_; (case aR => repeat (first | exact (cB HR0.out HB.out) | (with_reducible refine Kd.C_alloc ?_ _) | (with_reducible refine Kd.C_drewN ?_ _) | (with_reducible refine Kd.C_drew ?_))); (case aB => exact (bl HB.out)); (case aF => exact (fun _ _ => trivial)); (case aO => exact (kr HO319.out)); (case aS => exact (below_size (bl HB.out))); (case aL => have := LMc2.out; omega); intro v321 w5 ho hb hg hat; rw [← Ny320.out] at ho; have n0_ := aM (hb); have n1_ := aM (ho); clear HB HO319; have HB := n0_; have HO322 := n1_; clear n0_ n1_; clear ho hb hg hat))
 go_ret
 exact ⟨_, xW, by (with_reducible repeat (first | apply Kd.R_alloc | apply Kd.R_drewN | apply Kd.R_drew)); exact HO322.out, bl HB.out⟩

def bytes_Equal.f (l0 : List Int) (l1 : List Int) : Option (Bool) := some ((strOfNums l0).toList == (strOfNums l1).toList)
set_option maxHeartbeats 60000000 in
set_option maxRecDepth 100000 in
theorem bytes_Equal.calls (A0 : Option Addr) (c0 : Nat) (l0 : List Int) (A1 : Option Addr) (c1 : Nat) (l1 : List Int) (r : Bool) (w : World) (hr0 : Kd.C (Kd.int .u8) w A0 l0.length l0) (hc0 : l0.length ≤ c0) (hr1 : Kd.C (Kd.int .u8) w A1 l1.length l1) (hc1 : l1.length ≤ c1) (h : bytes_Equal.f l0 l1 = some r) :
  Calls Try.prog 48 #[.slice A0 l0.length c0, .slice A1 l1.length c1] w fun e w' => e = .returned (.bool r) ∧ Drawn0 w w' := by
 have HR0 := aM hr0
 have HC0 := aM hc0
 clear hr0 hc0
 have HR1 := aM hr1
 have HC1 := aM hc1
 clear hr1 hc1
 have H : (some ((strOfNums l0).toList == (strOfNums l1).toList)) = some r := h
 clear h
 obtain rfl := Option.some.inj H
 have hcv3 := Kd.C_string (P := Try.prog) (A := A0) (c := c0) Try.underlying22 Try.underlying5 Try.underlying9 HR0.out
 have hcv4 := Kd.C_string (P := Try.prog) (A := A1) (c := c1) Try.underlying22 Try.underlying5 Try.underlying9 HR1.out
 go_enter Try.func48, Try.ntmps48
 go_wp2
 go_ret
 exact ⟨by first | rfl | (simp; done) | (simp [*]; done), by repeat (first | exact Drawn0.refl _ | apply Drawn0.step)⟩

def impl_FrameOf.j0 : Nat → List Int → Int → Bool → List Int → Int → Bool → Int → Int → Int → Option (Int × Int × Int × List Int × Bool)
 | 0, _, _, _, _, _, _, _, _, _ => none
 | k + 1, x0, x6, x30, x325000, x325001, x325002, x329000, x329001, x329002 => if x30 = true then (some (0, 0, 0, ([] : List Int), false)) else (if 0 ≤ x325001 then (if x325001 ≤ (wrap64 (x325001 + x6)) then (if (wrap64 (x325001 + x6)) ≤ (x0.length : Int) then ((slices_Clone_byte_byte.f ((x0.take ((wrap64 (x325001 + x6)) : Int).toNat).drop (x325001 : Int).toNat)).bind fun t339 => ((impl_FrameOk.f x329000 x329001 x329002 t339).bind fun t342 => (if t342 = true then ((impl_FrameBytes.f k x329000 x329001 x329002 t339).bind fun t343 => ((bytes_Equal.f t343 x0).bind fun t346 => (if t346 = true then (some (x329000, x329001, x329002, t339, true)) else (some (0, 0, 0, ([] : List Int), false))))) else (some (0, 0, 0, ([] : List Int), false))))) else (none)) else (none)) else (none))
def impl_FrameOf.f (k : Nat) (l0 : List Int) : Option (Int × Int × Int × List Int × Bool) := (impl_reader_octet.f l0 0 false).bind fun bt325 => ((impl_reader_octet.f l0 bt325.2.1 bt325.2.2).bind fun bt329 => ((impl_reader_octet.f l0 bt329.2.1 bt329.2.2).bind fun bt332 => ((impl_reader_num.f k l0 bt332.2.1 bt332.2.2).bind fun bt335 => (if bt335.2.2 = true then (impl_FrameOf.j0 k l0 bt335.1 true l0 bt335.2.1 bt335.2.2 bt325.1 bt329.1 bt332.1) else (if bt335.1 > 30 then (impl_FrameOf.j0 k l0 bt335.1 true l0 bt335.2.1 bt335.2.2 bt325.1 bt329.1 bt332.1) else (impl_FrameOf.j0 k l0 bt335.1 (decide (bt335.1 > (wrap64 ((l0.length : Int) - bt335.2.1)))) l0 bt335.2.1 bt335.2.2 bt325.1 bt329.1 bt332.1))))))
theorem impl_FrameOf.mono_l : ∀ k, (∀ y0 y1 y2 y3 y4 y5 y6 y7 y8, LeO (impl_FrameOf.j0 k y0 y1 y2 y3 y4 y5 y6 y7 y8) (impl_FrameOf.j0 (k + 1) y0 y1 y2 y3 y4 y5 y6 y7 y8))
 | 0 => fun _ _ _ _ _ _ _ _ _ r h => by simp [impl_FrameOf.j0] at h
 | k + 1 => by
  have ih0 := impl_FrameOf.mono_l k
  ·intro y0 y1 y2 y3 y4 y5 y6 y7 y8
   unfold impl_FrameOf.j0
   repeat' first
   | (with_reducible exact ih0 _ _ _ _ _ _ _ _ _)
   | (with_reducible exact impl_FrameBytes.mono _ _ _ _ _)
   | (with_reducible exact impl_reader_num.mono _ _ _ _)
   | (with_reducible exact LeO.refl _)
   | (with_reducible exact LeO.none _)
   | (with_reducible refine LeO.ite ?_ ?_)
   | (with_reducible refine LeO.bind ?_ (fun _ => ?_))
   | exact ih0 _ _ _ _ _ _ _ _ _
   | exact impl_FrameBytes.mono _ _ _ _ _
   | exact impl_reader_num.mono _ _ _ _
   | exact LeO.none _
   | refine LeO.ite ?_ ?_
   | refine LeO.bind ?_ (fun _ => ?_)
theorem impl_FrameOf.mono : ∀ a0 k, LeO (impl_FrameOf.f k a0) (impl_FrameOf.f (k + 1) a0) := by
 intro a0 k
 have ih0 := impl_FrameOf.mono_l k
 unfold impl_FrameOf.f
 repeat' first
   | (with_reducible exact ih0 _ _ _ _ _ _ _ _ _)
   | (with_reducible exact impl_FrameBytes.mono _ _ _ _ _)
   | (with_reducible exact impl_reader_num.mono _ _ _ _)
   | (with_reducible exact LeO.refl _)
   | (with_reducible exact LeO.none _)
   | (with_reducible refine LeO.ite ?_ ?_)
   | (with_reducible refine LeO.bind ?_ (fun _ => ?_))
   | exact ih0 _ _ _ _ _ _ _ _ _
   | exact impl_FrameBytes.mono _ _ _ _ _
   | exact impl_reader_num.mono _ _ _ _
   | exact LeO.none _
   | refine LeO.ite ?_ ?_
   | refine LeO.bind ?_ (fun _ => ?_)
set_option maxHeartbeats 60000000 in
set_option maxRecDepth 100000 in
theorem impl_FrameOf.calls (k : Nat) (A0 : Option Addr) (c0 : Nat) (l0 : List Int) (r1 : Int) (r2 : Int) (r3 : Int) (r4 : List Int) (r5 : Bool) (w : World) (hr0 : Kd.C (Kd.int .u8) w A0 l0.length l0) (hc0 : l0.length ≤ c0) (h : impl_FrameOf.f k l0 = some (r1, r2, r3, r4, r5)) :
  Calls Try.prog 10 #[.slice A0 l0.length c0] w fun e w' => ∃ v3_ : Value, e = .returned (.tuple #[.agg #[.int .i64 r1, .int .i64 r2, .int .i64 r3, v3_], .bool r5]) ∧ Kd.R (Kd.int .u8) 5 w' w.heap.size (fun _ => True) v3_ r4 ∧ Below w.heap.size w w' := by
 have hu25 := Try.underlying25
 have hu64 := Try.underlying64
 have HR0 := aM hr0
 have HC0 := aM hc0
 clear hr0 hc0
 have HB := aM (Below.refl w.heap.size w)
 have H : ((impl_reader_octet.f l0 0 false).bind fun bt325 => ((impl_reader_octet.f l0 bt325.2.1 bt325.2.2).bind fun bt329 => ((impl_reader_octet.f l0 bt329.2.1 bt329.2.2).bind fun bt332 => ((impl_reader_num.f k l0 bt332.2.1 bt332.2.2).bind fun bt335 => (if bt335.2.2 = true then (impl_FrameOf.j0 k l0 bt335.1 true l0 bt335.2.1 bt335.2.2 bt325.1 bt329.1 bt332.1) else (if bt335.1 > 30 then (impl_FrameOf.j0 k l0 bt335.1 true l0 bt335.2.1 bt335.2.2 bt325.1 bt329.1 bt332.1) else (impl_FrameOf.j0 k l0 bt335.1 (decide (bt335.1 > (wrap64 ((l0.length : Int) - bt335.2.1)))) l0 bt335.2.1 bt335.2.2 bt325.1 bt329.1 bt332.1))))))) = some (r1, r2, r3, r4, r5) := h
 clear h
 replace H := Option.bind_eq_some_iff.mp H
 obtain ⟨⟨t325, t326, t327⟩, A20, H⟩ := H
 replace H : ((impl_reader_octet.f l0 t326 t327).bind fun bt329 => ((impl_reader_octet.f l0 bt329.2.1 bt329.2.2).bind fun bt332 => ((impl_reader_num.f k l0 bt332.2.1 bt332.2.2).bind fun bt335 => (if bt335.2.2 = true then (impl_FrameOf.j0 k l0 bt335.1 true l0 bt335.2.1 bt335.2.2 t325 bt329.1 bt332.1) else (if bt335.1 > 30 then (impl_FrameOf.j0 k l0 bt335.1 true l0 bt335.2.1 bt335.2.2 t325 bt329.1 bt332.1) else (impl_FrameOf.j0 k l0 bt335.1 (decide (bt335.1 > (wrap64 ((l0.length : Int) - bt335.2.1)))) l0 bt335.2.1 bt335.2.2 t325 bt329.1 bt332.1)))))) = some (r1, r2, r3, r4, r5) := H
 have A2 := aM A20
 clear A20
 replace H := Option.bind_eq_some_iff.mp H
 obtain ⟨⟨t329, t330, t331⟩, A30, H⟩ := H
 replace H : ((impl_reader_octet.f l0 t330 t331).bind fun bt332 => ((impl_reader_num.f k l0 bt332.2.1 bt332.2.2).bind fun bt335 => (if bt335.2.2 = true then (impl_FrameOf.j0 k l0 bt335.1 true l0 bt335.2.1 bt335.2.2 t325 t329 bt332.1) else (if bt335.1 > 30 then (impl_FrameOf.j0 k l0 bt335.1 true l0 bt335.2.1 bt335.2.2 t325 t329 bt332.1) else (impl_FrameOf.j0 k l0 bt335.1 (decide (bt335.1 > (wrap64 ((l0.length : Int) - bt335.2.1)))) l0 bt335.2.1 bt335.2.2 t325 t329 bt332.1))))) = some (r1, r2, r3, r4, r5) := H
 have A3 := aM A30
 clear A30
 replace H := Option.bind_eq_some_iff.mp H
 obtain ⟨⟨t332, t333, t334⟩, A40, H⟩ := H
 replace H : ((impl_reader_num.f k l0 t333 t334).bind fun bt335 => (if bt335.2.2 = true then (impl_FrameOf.j0 k l0 bt335.1 true l0 bt335.2.1 bt335.2.2 t325 t329 t332) else (if bt335.1 > 30 then (impl_FrameOf.j0 k l0 bt335.1 true l0 bt335.2.1 bt335.2.2 t325 t329 t332) else (impl_FrameOf.j0 k l0 bt335.1 (decide (bt335.1 > (wrap64 ((l0.length : Int) - bt335.2.1)))) l0 bt335.2.1 bt335.2.2 t325 t329 t332)))) = some (r1, r2, r3, r4, r5) := H
 have A4 := aM A40
 clear A40
 replace H := Option.bind_eq_some_iff.mp H
 obtain ⟨⟨t335, t336, t337⟩, A50, H⟩ := H
 replace H : (if t337 = true then (impl_FrameOf.j0 k l0 t335 true l0 t336 t337 t325 t329 t332) else (if t335 > 30 then (impl_FrameOf.j0 k l0 t335 true l0 t336 t337 t325 t329 t332) else (impl_FrameOf.j0 k l0 t335 (decide (t335 > (wrap64 ((l0.length : Int) - t336)))) l0 t336 t337 t325 t329 t332))) = some (r1, r2, r3, r4, r5) := H
 have A5 := aM A50
 clear A50
 have HC6 := aM H
 clear H
 go_enter Try.func10, Try.ntmps10
 go_upto_region 6 with (first | ((with_reducible refine gate_dst (N := 2) rfl ?_); (try (refine gate_guard (by rfl) ?_; dsimp only)); refine box_event ?hg (N := 2) ?hd (cs := #[.int .i64 0, .int .i64 0, .int .i64 0, .slice none 0 0]) (t := 25) ?hr ?_; (case hd => rfl); (case hg => rfl); (case hr => first | (go_simp; done) | (go_simp; rfl)); intro gb323 hg w7 hbox hb; have n0_ := aM (bS (bl HB.out) hb); have n1_ := aM (hbox); have n2_ := aM ((by rw [hg]; exact (below_size (bl HB.out)) : w.heap.size ≤ gb323)); have n3_ := aM ((by rw [hg]; exact (below_size (bl HB.out)) : w.heap.size ≤ gb323)); clear HB; have HB := n0_; have BK323 := n1_; have GW323 := n2_; have GE323 := n3_; clear n0_ n1_ n2_ n3_; clear hb hbox hg) | ((with_reducible refine gate_dst (N := 4) rfl ?_); (try (refine gate_guard (by rfl) ?_; dsimp only)); refine box_event ?hg (N := 4) ?hd (cs := #[.slice none 0 0, .int .i64 0, .bool false]) (t := 64) ?hr ?_; (case hd => rfl); (case hg => rfl); (case hr => first | (go_simp; done) | (go_simp; rfl)); intro gb324 hg w8 hbox hb; have n0_ := aM (bB (g := gb323) (o := .cells #[.int .i64 0, .int .i64 0, .int .i64 0, .slice none 0 0] 25 (0, 0)) (bk BK323.out) hb); have n1_ := aM (bS (bl HB.out) hb); have n2_ := aM ((by rw [hg]; exact Nat.ne_of_lt (blk_lt (g := gb323) (o := .cells #[.int .i64 0, .int .i64 0, .int .i64 0, .slice none 0 0] 25 (0, 0)) (bk BK323.out)) : gb323 ≠ gb324)); have n3_ := aM ((by rw [hg]; exact Nat.ne_of_gt (blk_lt (g := gb323) (o := .cells #[.int .i64 0, .int .i64 0, .int .i64 0, .slice none 0 0] 25 (0, 0)) (bk BK323.out)) : gb324 ≠ gb323)); have n4_ := aM ((show IsS64 w w8 gb324 ([] : List Int) 0 false from ⟨_, _, hbox, (by rw [hg]; exact (below_size (bl HB.out)) : w.heap.size ≤ gb324), ⟨Kd.C_nil _ _, Nat.le_refl _⟩⟩)); clear BK323 HB; have BK323 := n0_; have HB := n1_; have NB323_324 := n2_; have NB324_323 := n3_; have HI324 := n4_; clear n0_ n1_ n2_ n3_ n4_; clear hb hbox hg; obtain ⟨ASz9_0, cSz9_0, HGz9, hgz9, HSz9_0⟩ := HI324.out; have hcz9_0 := cellS64_0 HGz9; have hcz9_1 := cellS64_1 HGz9; have hcz9_2 := cellS64_2 HGz9; have hfz9_0 := bF HGz9 0; have hfz9_1 := bF HGz9 1; have hfz9_2 := bF HGz9 2; clear HGz9 hgz9) | ((with_reducible refine gate_callee (f := 45) rfl ?_); refine goesL_ (some 9) rfl rfl Try.func45 (by kernel_rfl) rfl #[.pointer (some ⟨gb324, 0, none⟩)] rfl xR ?_; (with_reducible refine (impl_reader_octet.calls gb324 l0 0 false t325 t326 t327 w _ ?side1 ?side2 A2.out).mono ?_); (case side1 => repeat (first | (with_reducible first | exact HI324.out | apply IsS64.alloc | apply IsS64.drewN | apply IsS64.drew | apply IsS64.set_1 | apply IsS64.set_2 | apply IsS64.put_0 (hx_ := ⟨HR0.out, HC0.out⟩) | refine IsS64.far ?_ NB324_323.out _) | exact HI324.out)); (case side2 => repeat (first | (with_reducible first | exact HB.out | apply below_alloc | apply pw_below_drewN | apply below_drew1 | refine below_set ?_ (IsS64.ge HI324.out) | refine below_set ?_ GE323.out) | exact HB.out)); rintro e w10 ⟨rfl, hi, hb, hk⟩; refine ⟨_, rfl, ?_⟩; have n0_ := aM (KeepBut.blk hk (g' := gb323) (o := .cells #[.int .i64 0, .int .i64 0, .int .i64 0, .slice none 0 0] 25 (0, 0)) (by (with_reducible repeat (first | refine blk_drewN ?_ _ | refine blk_drew ?_ | refine blk_alloc ?_ _)); refine blk_far ?_ NB323_324.out _; (with_reducible repeat (first | refine blk_drewN ?_ _ | refine blk_drew ?_ | refine blk_alloc ?_ _)); refine blk_far ?_ NB323_324.out _; (with_reducible repeat (first | refine blk_drewN ?_ _ | refine blk_drew ?_ | refine blk_alloc ?_ _)); refine blk_far ?_ NB323_324.out _; (with_reducible repeat (first | refine blk_drewN ?_ _ | refine blk_drew ?_ | refine blk_alloc ?_ _)); exact BK323.out) NB323_324.out (by simp)); have n1_ := aM (hb); have n2_ := aM (hi); clear BK323 HB HI324; have BK323 := n0_; have HB := n1_; have HI324 := n2_; clear n0_ n1_ n2_; (try clear hb); (try clear hk); (try clear hi)) | ((with_reducible refine gate_dst (N := 5) rfl ?_); (try (refine gate_guard (by rfl) ?_; dsimp only)); refine box_event ?hg (N := 5) ?hd (cs := #[.int .i64 0, .int .i64 0, .int .i64 0, .slice none 0 0]) (t := 25) ?hr ?_; (case hd => rfl); (case hg => rfl); (case hr => first | (go_simp; done) | (go_simp; rfl)); intro gb328 hg w11 hbox hb; have n0_ := aM (bB (g := gb323) (o := .cells #[.int .i64 0, .int .i64 0, .int .i64 0, .slice none 0 0] 25 (0, 0)) (bk BK323.out) hb); have n1_ := aM (IsS64.below (by repeat (first | (with_reducible first | exact HI324.out | apply IsS64.alloc | apply IsS64.drewN | apply IsS64.drew | apply IsS64.set_1 | apply IsS64.set_2 | apply IsS64.put_0 (hx_ := ⟨HR0.out, HC0.out⟩) | refine IsS64.far ?_ NB324_323.out _) | exact HI324.out)) hb); have n2_ := aM (bS (by repeat (first | (with_reducible first | exact HB.out | apply below_alloc | apply pw_below_drewN | apply below_drew1 | refine below_set ?_ (IsS64.ge HI324.out) | refine below_set ?_ GE323.out) | exact HB.out)) hb); have n3_ := aM (hbox); have n4_ := aM ((by rw [hg]; exact (below_size (by repeat (first | (with_reducible first | exact HB.out | apply below_alloc | apply pw_below_drewN | apply below_drew1 | refine below_set ?_ (IsS64.ge HI324.out) | refine below_set ?_ GE323.out) | exact HB.out))) : w.heap.size ≤ gb328)); have n5_ := aM ((by rw [hg]; exact (below_size (by repeat (first | (with_reducible first | exact HB.out | apply below_alloc | apply pw_below_drewN | apply below_drew1 | refine below_set ?_ (IsS64.ge HI324.out) | refine below_set ?_ GE323.out) | exact HB.out))) : w.heap.size ≤ gb328)); have n6_ := aM ((by rw [hg]; exact Nat.ne_of_lt (blk_lt (g := gb323) (o := .cells #[.int .i64 0, .int .i64 0, .int .i64 0, .slice none 0 0] 25 (0, 0)) (bk BK323.out)) : gb323 ≠ gb328)); have n7_ := aM ((by rw [hg]; exact Nat.ne_of_gt (blk_lt (g := gb323) (o := .cells #[.int .i64 0, .int .i64 0, .int .i64 0, .slice none 0 0] 25 (0, 0)) (bk BK323.out)) : gb328 ≠ gb323)); have n8_ := aM ((by rw [hg]; exact Nat.ne_of_lt (IsS64.lt (show IsS64 w _ gb324 l0 t326 t327 from by repeat (first | (with_reducible first | exact HI324.out | apply IsS64.alloc | apply IsS64.drewN | apply IsS64.drew | apply IsS64.set_1 | apply IsS64.set_2 | apply IsS64.put_0 (hx_ := ⟨HR0.out, HC0.out⟩) | refine IsS64.far ?_ NB324_323.out _) | exact HI324.out))) : gb324 ≠ gb328)); have n9_ := aM ((by rw [hg]; exact Nat.ne_of_gt (IsS64.lt (show IsS64 w _ gb324 l0 t326 t327 from by repeat (first | (with_reducible first | exact HI324.out | apply IsS64.alloc | apply IsS64.drewN | apply IsS64.drew | apply IsS64.set_1 | apply IsS64.set_2 | apply IsS64.put_0 (hx_ := ⟨HR0.out, HC0.out⟩) | refine IsS64.far ?_ NB324_323.out _) | exact HI324.out))) : gb328 ≠ gb324)); clear BK323 HI324 HB; have BK323 := n0_; have HI324 := n1_; have HB := n2_; have BK328 := n3_; have GW328 := n4_; have GE328 := n5_; have NB323_328 := n6_; have NB328_323 := n7_; have NB324_328 := n8_; have NB328_324 := n9_; clear n0_ n1_ n2_ n3_ n4_ n5_ n6_ n7_ n8_ n9_; clear hb hbox hg; have hnb12 := NB328_323.out; have hnc12 := NB323_328.out; have hnb13 := NB328_324.out; have hnc13 := NB324_328.out; have hcz14_0 := cI BK328.out 0; have hcz14_1 := cI BK328.out 1; have hcz14_2 := cI BK328.out 2; have hcz14_3 := cI BK328.out 3; have hfz14_0 := bF BK328.out 0; have hfz14_1 := bF BK328.out 1; have hfz14_2 := bF BK328.out 2; have hfz14_3 := bF BK328.out 3) | ((with_reducible refine gate_callee (f := 45) rfl ?_); refine goesL_ (some 11) rfl rfl Try.func45 (by kernel_rfl) rfl #[.pointer (some ⟨gb324, 0, none⟩)] rfl xR ?_; (with_reducible refine (impl_reader_octet.calls gb324 l0 t326 t327 t329 t330 t331 w _ ?side1 ?side2 A3.out).mono ?_); (case side1 => repeat (first | (with_reducible first | exact HI324.out | apply IsS64.alloc | apply IsS64.drewN | apply IsS64.drew | apply IsS64.set_1 | apply IsS64.set_2 | apply IsS64.put_0 (hx_ := ⟨HR0.out, HC0.out⟩) | refine IsS64.far ?_ NB324_323.out _ | refine IsS64.far ?_ NB324_328.out _) | exact HI324.out)); (case side2 => repeat (first | (with_reducible first | exact HB.out | apply below_alloc | apply pw_below_drewN | apply below_drew1 | refine below_set ?_ (IsS64.ge HI324.out) | refine below_set ?_ GE323.out | refine below_set ?_ GE328.out) | exact HB.out)); rintro e w15 ⟨rfl, hi, hb, hk⟩; refine ⟨_, rfl, ?_⟩; have n0_ := aM (KeepBut.blk hk (g' := gb323) (o := .cells #[.int .i64 0, .int .i64 0, .int .i64 0, .slice none 0 0] 25 (0, 0)) (by (with_reducible repeat (first | refine blk_drewN ?_ _ | refine blk_drew ?_ | refine blk_alloc ?_ _)); refine blk_far ?_ NB323_328.out _; (with_reducible repeat (first | refine blk_drewN ?_ _ | refine blk_drew ?_ | refine blk_alloc ?_ _)); refine blk_far ?_ NB323_328.out _; (with_reducible repeat (first | refine blk_drewN ?_ _ | refine blk_drew ?_ | refine blk_alloc ?_ _)); refine blk_far ?_ NB323_328.out _; (with_reducible repeat (first | refine blk_drewN ?_ _ | refine blk_drew ?_ | refine blk_alloc ?_ _)); refine blk_far ?_ NB323_328.out _; (with_reducible repeat (first | refine blk_drewN ?_ _ | refine blk_drew ?_ | refine blk_alloc ?_ _)); exact BK323.out) NB323_324.out (by simp)); have n1_ := aM (KeepBut.blk hk (g' := gb328) (o := .cells #[.int .i64 t325, .int .i64 0, .int .i64 0, .slice none 0 0] 25 (0, 0)) (by (with_reducible repeat (first | refine blk_drewN ?_ _ | refine blk_drew ?_ | refine blk_alloc ?_ _)); refine blk_put (cs := #[.int .i64 t325, .int .i64 0, .int .i64 0, .slice none 0 0]) ?_ 3 _ rfl; (with_reducible repeat (first | refine blk_drewN ?_ _ | refine blk_drew ?_ | refine blk_alloc ?_ _)); refine blk_put (cs := #[.int .i64 t325, .int .i64 0, .int .i64 0, .slice none 0 0]) ?_ 2 _ rfl; (with_reducible repeat (first | refine blk_drewN ?_ _ | refine blk_drew ?_ | refine blk_alloc ?_ _)); refine blk_put (cs := #[.int .i64 t325, .int .i64 0, .int .i64 0, .slice none 0 0]) ?_ 1 _ rfl; (with_reducible repeat (first | refine blk_drewN ?_ _ | refine blk_drew ?_ | refine blk_alloc ?_ _)); refine blk_put (cs := #[.int .i64 0, .int .i64 0, .int .i64 0, .slice none 0 0]) ?_ 0 _ rfl; (with_reducible repeat (first | refine blk_drewN ?_ _ | refine blk_drew ?_ | refine blk_alloc ?_ _)); exact BK328.out) NB328_324.out (by simp)); have n2_ := aM (hb); have n3_ := aM (hi); clear BK323 BK328; clear HB HI324; have BK323 := n0_; have BK328 := n1_; have HB := n2_; have HI324 := n3_; clear n0_ n1_ n2_ n3_; (try clear hb); (try clear hk); (try clear hi); have hcz16_0 := cI BK328.out 0; have hcz16_1 := cI BK328.out 1; have hcz16_2 := cI BK328.out 2; have hcz16_3 := cI BK328.out 3; have hfz16_0 := bF BK328.out 0; have hfz16_1 := bF BK328.out 1; have hfz16_2 := bF BK328.out 2; have hfz16_3 := bF BK328.out 3) | ((with_reducible refine gate_callee (f := 45) rfl ?_); refine goesL_ (some 13) rfl rfl Try.func45 (by kernel_rfl) rfl #[.pointer (some ⟨gb324, 0, none⟩)] rfl xR ?_; (with_reducible refine (impl_reader_octet.calls gb324 l0 t330 t331 t332 t333 t334 w _ ?side1 ?side2 A4.out).mono ?_); (case side1 => repeat (first | (with_reducible first | exact HI324.out | apply IsS64.alloc | apply IsS64.drewN | apply IsS64.drew | apply IsS64.set_1 | apply IsS64.set_2 | apply IsS64.put_0 (hx_ := ⟨HR0.out, HC0.out⟩) | refine IsS64.far ?_ NB324_323.out _ | refine IsS64.far ?_ NB324_328.out _) | exact HI324.out)); (case side2 => repeat (first | (with_reducible first | exact HB.out | apply below_alloc | apply pw_below_drewN | apply below_drew1 | refine below_set ?_ (IsS64.ge HI324.out) | refine below_set ?_ GE323.out | refine below_set ?_ GE328.out) | exact HB.out)); rintro e w17 ⟨rfl, hi, hb, hk⟩; refine ⟨_, rfl, ?_⟩; have n0_ := aM (KeepBut.blk hk (g' := gb323) (o := .cells #[.int .i64 0, .int .i64 0, .int .i64 0, .slice none 0 0] 25 (0, 0)) (by (with_reducible repeat (first | refine blk_drewN ?_ _ | refine blk_drew ?_ | refine blk_alloc ?_ _)); refine blk_far ?_ NB323_328.out _; (with_reducible repeat (first | refine blk_drewN ?_ _ | refine blk_drew ?_ | refine blk_alloc ?_ _)); exact BK323.out) NB323_324.out (by simp)); have n1_ := aM (KeepBut.blk hk (g' := gb328) (o := .cells #[.int .i64 t325, .int .i64 t329, .int .i64 0, .slice none 0 0] 25 (0, 0)) (by (with_reducible repeat (first | refine blk_drewN ?_ _ | refine blk_drew ?_ | refine blk_alloc ?_ _)); refine blk_put (cs := #[.int .i64 t325, .int .i64 0, .int .i64 0, .slice none 0 0]) ?_ 1 _ rfl; (with_reducible repeat (first | refine blk_drewN ?_ _ | refine blk_drew ?_ | refine blk_alloc ?_ _)); exact BK328.out) NB328_324.out (by simp)); have n2_ := aM (hb); have n3_ := aM (hi); clear BK323 BK328; clear HB HI324; have BK323 := n0_; have BK328 := n1_; have HB := n2_; have HI324 := n3_; clear n0_ n1_ n2_ n3_; (try clear hb); (try clear hk); (try clear hi); have hcz18_0 := cI BK328.out 0; have hcz18_1 := cI BK328.out 1; have hcz18_2 := cI BK328.out 2; have hcz18_3 := cI BK328.out 3; have hfz18_0 := bF BK328.out 0; have hfz18_1 := bF BK328.out 1; have hfz18_2 := bF BK328.out 2; have hfz18_3 := bF BK328.out 3) | ((with_reducible refine gate_callee (f := 46) rfl ?_); refine goesL_ (some 15) rfl rfl Try.func46 (by kernel_rfl) rfl #[.pointer (some ⟨gb324, 0, none⟩)] rfl xR ?_; (with_reducible refine (impl_reader_num.calls k gb324 l0 t333 t334 t335 t336 t337 w _ ?side1 ?side2 A5.out).mono ?_); (case side1 => repeat (first | (with_reducible first | exact HI324.out | apply IsS64.alloc | apply IsS64.drewN | apply IsS64.drew | apply IsS64.set_1 | apply IsS64.set_2 | apply IsS64.put_0 (hx_ := ⟨HR0.out, HC0.out⟩) | refine IsS64.far ?_ NB324_323.out _ | refine IsS64.far ?_ NB324_328.out _) | exact HI324.out)); (case side2 => repeat (first | (with_reducible first | exact HB.out | apply below_alloc | apply pw_below_drewN | apply below_drew1 | refine below_set ?_ (IsS64.ge HI324.out) | refine below_set ?_ GE323.out | refine below_set ?_ GE328.out) | exact HB.out)); rintro e w19 ⟨rfl, hi, hb, hk⟩; refine ⟨_, rfl, ?_⟩; have n0_ := aM (KeepBut.blk hk (g' := gb323) (o := .cells #[.int .i64 0, .int .i64 0, .int .i64 0, .slice none 0 0] 25 (0, 0)) (by (with_reducible repeat (first | refine blk_drewN ?_ _ | refine blk_drew ?_ | refine blk_alloc ?_ _)); refine blk_far ?_ NB323_328.out _; (with_reducible repeat (first | refine blk_drewN ?_ _ | refine blk_drew ?_ | refine blk_alloc ?_ _)); exact BK323.out) NB323_324.out (by simp)); have n1_ := aM (KeepBut.blk hk (g' := gb328) (o := .cells #[.int .i64 t325, .int .i64 t329, .int .i64 t332, .slice none 0 0] 25 (0, 0)) (by (with_reducible repeat (first | refine blk_drewN ?_ _ | refine blk_drew ?_ | refine blk_alloc ?_ _)); refine blk_put (cs := #[.int .i64 t325, .int .i64 t329, .int .i64 0, .slice none 0 0]) ?_ 2 _ rfl; (with_reducible repeat (first | refine blk_drewN ?_ _ | refine blk_drew ?_ | refine blk_alloc ?_ _)); exact BK328.out) NB328_324.out (by simp)); have n2_ := aM (hb); have n3_ := aM (hi); clear BK323 BK328; clear HB HI324; have BK323 := n0_; have BK328 := n1_; have HB := n2_; have HI324 := n3_; clear n0_ n1_ n2_ n3_; (try clear hb); (try clear hk); (try clear hi)))
 (try simp only [Act.put, sA, sZ, sS])
 go_cut [30] (fun v30 wc => ∃ (kq : Nat) (x30_5 : Bool), v30 = .bool x30_5 ∧ Aside0 (impl_FrameOf.j0 kq l0 t335 x30_5 l0 t336 t337 t325 t329 t332 = some (r1, r2, r3, r4, r5)) ∧ Aside0 (kq ≤ k) ∧ Aside0 (wc.heap[gb323]? = some (.cells #[.int .i64 0, .int .i64 0, .int .i64 0, (.slice none 0 0)] 25 (0, 0))) ∧ Aside0 (wc.heap[gb328]? = some (.cells #[.int .i64 t325, .int .i64 t329, .int .i64 t332, (.slice none 0 0)] 25 (0, 0))) ∧ Aside0 (IsS64 w wc gb324 l0 t336 t337) ∧ Aside0 (Below w.heap.size w wc))
 case first =>
  have H := HC6.out
  clear HC6
  by_cases c20 : t337 = true
  case pos =>
   subst c20
   have H1 : (impl_FrameOf.j0 k l0 t335 true l0 t336 true t325 t329 t332) = some (r1, r2, r3, r4, r5) := by rw [if_pos rfl] at H; exact H
   clear H
   have H := H1
   clear H1
   have H' := aM H
   clear H
   obtain ⟨ASz21_0, cSz21_0, HGz21, hgz21, HSz21_0⟩ := HI324.out
   have hcz21_0 := cellS64_0 HGz21
   have hcz21_1 := cellS64_1 HGz21
   have hcz21_2 := cellS64_2 HGz21
   have hfz21_0 := bF HGz21 0
   have hfz21_1 := bF HGz21 1
   have hfz21_2 := bF HGz21 2
   clear HGz21 hgz21
   go_wp2
   go_meet
   case rel => exact ⟨_, (true), xE, H', ⟨by first | omega | exact Nat.le_refl _⟩, ⟨by (with_reducible repeat (first | refine blk_drewN ?_ _ | refine blk_drew ?_ | refine blk_alloc ?_ _)); exact BK323.out⟩, ⟨by (with_reducible repeat (first | refine blk_drewN ?_ _ | refine blk_drew ?_ | refine blk_alloc ?_ _)); exact BK328.out⟩, ⟨by repeat (first | (with_reducible first | exact HI324.out | apply IsS64.alloc | apply IsS64.drewN | apply IsS64.drew | apply IsS64.set_1 | apply IsS64.set_2 | apply IsS64.put_0 (hx_ := ⟨HR0.out, HC0.out⟩) | refine IsS64.far ?_ NB324_323.out _ | refine IsS64.far ?_ NB324_328.out _) | exact HI324.out)⟩, ⟨by repeat (first | (with_reducible first | exact HB.out | apply below_alloc | apply pw_below_drewN | apply below_drew1 | refine below_set ?_ (IsS64.ge HI324.out) | refine below_set ?_ GE323.out | refine below_set ?_ GE328.out) | exact HB.out)⟩⟩
  replace c20 := Bool.eq_false_iff.mpr c20
  subst c20
  have H1 : (if t335 > 30 then (impl_FrameOf.j0 k l0 t335 true l0 t336 false t325 t329 t332) else (impl_FrameOf.j0 k l0 t335 (decide (t335 > (wrap64 ((l0.length : Int) - t336)))) l0 t336 false t325 t329 t332)) = some (r1, r2, r3, r4, r5) := by rw [if_neg (show ¬ (false = true) by decide)] at H; exact H
  clear H
  have H := H1
  clear H1
  by_cases c22 : t335 > 30
  case pos =>
   rw [if_pos c22] at H
   have c22b0 : decide (30 < t335) = true := decide_eq_true c22
   clear c22
   (first | rw [c22b0] | (simp only [i64_w, i32_w]; rw [c22b0]) | skip)
   have H' := aM H
   clear H
   obtain ⟨ASz23_0, cSz23_0, HGz23, hgz23, HSz23_0⟩ := HI324.out
   have hcz23_0 := cellS64_0 HGz23
   have hcz23_1 := cellS64_1 HGz23
   have hcz23_2 := cellS64_2 HGz23
   have hfz23_0 := bF HGz23 0
   have hfz23_1 := bF HGz23 1
   have hfz23_2 := bF HGz23 2
   clear HGz23 hgz23
   go_wp2
   go_meet
   case rel => exact ⟨_, (true), xE, H', ⟨by first | omega | exact Nat.le_refl _⟩, ⟨by (with_reducible repeat (first | refine blk_drewN ?_ _ | refine blk_drew ?_ | refine blk_alloc ?_ _)); exact BK323.out⟩, ⟨by (with_reducible repeat (first | refine blk_drewN ?_ _ | refine blk_drew ?_ | refine blk_alloc ?_ _)); exact BK328.out⟩, ⟨by repeat (first | (with_reducible first | exact HI324.out | apply IsS64.alloc | apply IsS64.drewN | apply IsS64.drew | apply IsS64.set_1 | apply IsS64.set_2 | apply IsS64.put_0 (hx_ := ⟨HR0.out, HC0.out⟩) | refine IsS64.far ?_ NB324_323.out _ | refine IsS64.far ?_ NB324_328.out _) | exact HI324.out)⟩, ⟨by repeat (first | (with_reducible first | exact HB.out | apply below_alloc | apply pw_below_drewN | apply below_drew1 | refine below_set ?_ (IsS64.ge HI324.out) | refine below_set ?_ GE323.out | refine below_set ?_ GE328.out) | exact HB.out)⟩⟩
  rw [if_neg c22] at H
  have c22b0 : decide (30 < t335) = false := decide_eq_false c22
  clear c22
  (first | rw [c22b0] | (simp only [i64_w, i32_w]; rw [c22b0]) | skip)
  have H' := aM H
  clear H
  obtain ⟨ASz24_0, cSz24_0, HGz24, hgz24, HSz24_0⟩ := HI324.out
  have hcz24_0 := cellS64_0 HGz24
  have hcz24_1 := cellS64_1 HGz24
  have hcz24_2 := cellS64_2 HGz24
  have hfz24_0 := bF HGz24 0
  have hfz24_1 := bF HGz24 1
  have hfz24_2 := bF HGz24 2
  clear HGz24 hgz24
  go_wp2
  go_meet
  case rel => exact ⟨_, (decide (t335 > (wrap64 ((l0.length : Int) - t336)))), xE, H', ⟨by first | omega | exact Nat.le_refl _⟩, ⟨by (with_reducible repeat (first | refine blk_drewN ?_ _ | refine blk_drew ?_ | refine blk_alloc ?_ _)); exact BK323.out⟩, ⟨by (with_reducible repeat (first | refine blk_drewN ?_ _ | refine blk_drew ?_ | refine blk_alloc ?_ _)); exact BK328.out⟩, ⟨by repeat (first | (with_reducible first | exact HI324.out | apply IsS64.alloc | apply IsS64.drewN | apply IsS64.drew | apply IsS64.set_1 | apply IsS64.set_2 | apply IsS64.put_0 (hx_ := ⟨HR0.out, HC0.out⟩) | refine IsS64.far ?_ NB324_323.out _ | refine IsS64.far ?_ NB324_328.out _) | exact HI324.out)⟩, ⟨by repeat (first | (with_reducible first | exact HB.out | apply below_alloc | apply pw_below_drewN | apply below_drew1 | refine below_set ?_ (IsS64.ge HI324.out) | refine below_set ?_ GE323.out | refine below_set ?_ GE328.out) | exact HB.out)⟩⟩
 case rest =>
  clear HC6
  try clear c1
  try clear c2
  try clear p2
  try clear c4
  try clear p6
  try clear c10
  try clear c12
  try clear c13
  try clear c20
  try clear c22
  try clear c22b0
  try clear hcz14_0
  try clear hcz14_1
  try clear hcz14_2
  try clear hcz14_3
  try clear hcz16_0
  try clear hcz16_1
  try clear hcz16_2
  try clear hcz16_3
  try clear hcz18_0
  try clear hcz18_1
  try clear hcz18_2
  try clear hcz18_3
  try clear hcz21_0
  try clear hcz21_1
  try clear hcz21_2
  try clear hcz23_0
  try clear hcz23_1
  try clear hcz23_2
  try clear hcz24_0
  try clear hcz24_1
  try clear hcz24_2
  try clear hcz9_0
  try clear hcz9_1
  try clear hcz9_2
  try clear hfz14_0
  try clear hfz14_1
  try clear hfz14_2
  try clear hfz14_3
  try clear hfz16_0
  try clear hfz16_1
  try clear hfz16_2
  try clear hfz16_3
  try clear hfz18_0
  try clear hfz18_1
  try clear hfz18_2
  try clear hfz18_3
  try clear hfz21_0
  try clear hfz21_1
  try clear hfz21_2
  try clear hfz23_0
  try clear hfz23_1
  try clear hfz23_2
  try clear hfz24_0
  try clear hfz24_1
  try clear hfz24_2
  try clear hfz9_0
  try clear hfz9_1
  try clear hfz9_2
  obtain ⟨kq, x30_5, rfl, HA, HJ5, BK323, BK328, HI324, HB⟩ := hcut
  cases kq with
  | zero => exact absurd HA.out (by simp [impl_FrameOf.j0])
  | succ kj5 =>
   have H := HA.out
   clear HA
   simp only [impl_FrameOf.j0] at H
   by_cases c25 : x30_5 = true
   case pos =>
    subst c25
    have H1 : (some (0, 0, 0, ([] : List Int), false)) = some (r1, r2, r3, r4, r5) := by rw [if_pos rfl] at H; exact H
    clear H
    have H := H1
    clear H1
    simp only [Option.some.injEq, Prod.mk.injEq] at H
    obtain ⟨rfl, rfl, rfl, rfl, rfl⟩ := H
    have hnb26 := NB323_328.out
    have hnc26 := NB328_323.out
    have hnb27 := NB323_324.out
    have hnc27 := NB324_323.out
    have hcz28_0 := cI BK323.out 0
    have hcz28_1 := cI BK323.out 1
    have hcz28_2 := cI BK323.out 2
    have hcz28_3 := cI BK323.out 3
    have hfz28_0 := bF BK323.out 0
    have hfz28_1 := bF BK323.out 1
    have hfz28_2 := bF BK323.out 2
    have hfz28_3 := bF BK323.out 3
    go_wp2
    refine bodyPost_ret (results_ct rfl _ _ gb323 25 #[.int .i64 0, .int .i64 0, .int .i64 0, .slice none 0 0] (0, 0) _ rfl (by (with_reducible repeat (first | refine blk_drewN ?_ _ | refine blk_drew ?_ | refine blk_alloc ?_ _)); refine blk_put (cs := #[.int .i64 0, .int .i64 0, .int .i64 0, .slice none 0 0]) ?_ 3 _ rfl; (with_reducible repeat (first | refine blk_drewN ?_ _ | refine blk_drew ?_ | refine blk_alloc ?_ _)); refine blk_put (cs := #[.int .i64 0, .int .i64 0, .int .i64 0, .slice none 0 0]) ?_ 2 _ rfl; (with_reducible repeat (first | refine blk_drewN ?_ _ | refine blk_drew ?_ | refine blk_alloc ?_ _)); refine blk_put (cs := #[.int .i64 0, .int .i64 0, .int .i64 0, .slice none 0 0]) ?_ 1 _ rfl; (with_reducible repeat (first | refine blk_drewN ?_ _ | refine blk_drew ?_ | refine blk_alloc ?_ _)); refine blk_put (cs := #[.int .i64 0, .int .i64 0, .int .i64 0, .slice none 0 0]) ?_ 0 _ rfl; (with_reducible repeat (first | refine blk_drewN ?_ _ | refine blk_drew ?_ | refine blk_alloc ?_ _)); exact BK323.out) Try.underlying25 rfl (by kernel_rfl)) rfl ?_
    exact ⟨_, xW, by first | exact Kd.R_nil _ _ _ _ _ | exact Kd.N_nil _ _ _ _ _ | exact Kd.V_nil _ _ _ _ _ | exact Kd.Q_nil _ _ _ _ _ | exact Kd.S_nil _ _ _ _ _, by repeat (first | (with_reducible first | exact HB.out | apply below_alloc | apply pw_below_drewN | apply below_drew1 | refine below_set ?_ (IsS64.ge HI324.out) | refine below_set ?_ GE323.out | refine below_set ?_ GE328.out) | exact HB.out)⟩
   replace c25 := Bool.eq_false_iff.mpr c25
   subst c25
   have H1 : (if 0 ≤ t336 then (if t336 ≤ (wrap64 (t336 + t335)) then (if (wrap64 (t336 + t335)) ≤ (l0.length : Int) then ((slices_Clone_byte_byte.f ((l0.take ((wrap64 (t336 + t335)) : Int).toNat).drop (t336 : Int).toNat)).bind fun t339 => ((impl_FrameOk.f t325 t329 t332 t339).bind fun t342 => (if t342 = true then ((impl_FrameBytes.f kj5 t325 t329 t332 t339).bind fun t343 => ((bytes_Equal.f t343 l0).bind fun t346 => (if t346 = true then (some (t325, t329, t332, t339, true)) else (some (0, 0, 0, ([] : List Int), false))))) else (some (0, 0, 0, ([] : List Int), false))))) else (none)) else (none)) else (none)) = some (r1, r2, r3, r4, r5) := by rw [if_neg (show ¬ (false = true) by decide)] at H; exact H
   clear H
   have H := H1
   clear H1
   by_cases c29 : 0 ≤ t336
   case neg =>
    rw [if_neg c29] at H
    exact absurd H (by simp)
   rw [if_pos c29] at H
   have c29b0 := eq_true c29
   have c29b1 : decide (0 ≤ t336) = true := decide_eq_true c29
   clear c29
   by_cases c30 : t336 ≤ (wrap64 (t336 + t335))
   case neg =>
    rw [if_neg c30] at H
    exact absurd H (by simp)
   rw [if_pos c30] at H
   have c30b0 := eq_true c30
   have c30b1 : decide (t336 ≤ (wrap64 (t336 + t335))) = true := decide_eq_true c30
   by_cases c31 : (wrap64 (t336 + t335)) ≤ (l0.length : Int)
   case neg =>
    rw [if_neg c31] at H
    exact absurd H (by simp)
   rw [if_pos c31] at H
   have c31b0 := eq_true c31
   have c31b1 : decide ((wrap64 (t336 + t335)) ≤ (l0.length : Int)) = true := decide_eq_true c31
   replace H := Option.bind_eq_some_iff.mp H
   obtain ⟨t339, A320, H⟩ := H
   replace H : ((impl_FrameOk.f t325 t329 t332 t339).bind fun t342 => (if t342 = true then ((impl_FrameBytes.f kj5 t325 t329 t332 t339).bind fun t343 => ((bytes_Equal.f t343 l0).bind fun t346 => (if t346 = true then (some (t325, t329, t332, t339, true)) else (some (0, 0, 0, ([] : List Int), false))))) else (some (0, 0, 0, ([] : List Int), false)))) = some (r1, r2, r3, r4, r5) := H
   have A32 := aM A320
   clear A320
   replace H := Option.bind_eq_some_iff.mp H
   obtain ⟨t342, A330, H⟩ := H
   replace H : (if t342 = true then ((impl_FrameBytes.f kj5 t325 t329 t332 t339).bind fun t343 => ((bytes_Equal.f t343 l0).bind fun t346 => (if t346 = true then (some (t325, t329, t332, t339, true)) else (some (0, 0, 0, ([] : List Int), false))))) else (some (0, 0, 0, ([] : List Int), false))) = some (r1, r2, r3, r4, r5) := H
   have A33 := aM A330
   clear A330
   by_cases c34 : t342 = true
   case neg =>
    replace c34 := Bool.eq_false_iff.mpr c34
    subst c34
    have H1 : (some (0, 0, 0, ([] : List Int), false)) = some (r1, r2, r3, r4, r5) := by rw [if_neg (show ¬ (false = true) by decide)] at H; exact H
    clear H
    have H := H1
    clear H1
    simp only [Option.some.injEq, Prod.mk.injEq] at H
    obtain ⟨rfl, rfl, rfl, rfl, rfl⟩ := H
    obtain ⟨ASz65_0, cSz65_0, HGz65, hgz65, HSz65_0⟩ := HI324.out
    have hcz65_0 := cellS64_0 HGz65
    have hcz65_1 := cellS64_1 HGz65
    have hcz65_2 := cellS64_2 HGz65
    have hfz65_0 := bF HGz65 0
    have hfz65_1 := bF HGz65 1
    have hfz65_2 := bF HGz65 2
    clear HGz65 hgz65
    obtain ⟨i066, hi066, _, hsz66, _⟩ := info_parts info5
    obtain ⟨A66, hcut66, hA66, hC66⟩ := print_mid_of (P := Try.prog) (Value.int .u8) 0 22 5 .i64 .i64 Try.underlying22 hi066 hsz66 A0 c0 l0 t336 (wrap64 (t336 + t335)) (of_decide_eq_true (by first | (with_reducible assumption) | assumption)) (by first | omega | exact of_decide_eq_true (by first | (with_reducible assumption) | assumption)) (of_decide_eq_true (by first | (with_reducible assumption) | assumption)) HC0.out
    have HR338 := aM (Kd.C_of_reads (h1 := fun _ => rfl) (hA66 _ (Kd.reads_of_C HR0.out)))
    have HC338 := aM hC66
    clear hA66 hC66 hi066 hsz66
    go_wp2_with (first | ((with_reducible refine gate_callee (f := 47) rfl ?_); refine goesL_ (some 40) rfl rfl Try.func47 (by kernel_rfl) rfl #[.slice A66 ((l0.take ((wrap64 (t336 + t335)) : Int).toNat).drop (t336 : Int).toNat).length (c0 - t336.toNat)] rfl (by (try simp only [List.map_toArray, List.map_cons, List.map_nil]); first | done | (rw [show ((l0.take ((wrap64 (t336 + t335)) : Int).toNat).drop (t336 : Int).toNat).length = ((wrap64 (t336 + t335)).toNat - t336.toNat) from (by rw [List.length_drop, List.length_take]; have h_ : ((wrap64 (t336 + t335)) : Int) ≤ (l0.length : Int) := of_decide_eq_true (by first | (with_reducible assumption) | assumption); omega)] <;> rfl) | rfl | (simp only [List.length_drop, List.length_take]; rfl)) ?_; (with_reducible refine (slices_Clone_byte_byte.calls _ _ ((l0.take ((wrap64 (t336 + t335)) : Int).toNat).drop (t336 : Int).toNat) t339 _ ?side1 ?side2 A32.out).mono ?_); (case side1 => repeat (first | exact (cB HR338.out HB.out) | (with_reducible refine Kd.C_alloc ?_ _) | (with_reducible refine Kd.C_drewN ?_ _) | (with_reducible refine Kd.C_drew ?_))); (case side2 => exact HC338.out); rintro e w67 ⟨v340, rfl, ho0, hb⟩; refine ⟨_, rfl, ?_⟩; have n0_ := aM (Kd.R_lower ho0 (below_size (by repeat (first | (with_reducible first | exact HB.out | apply below_alloc | apply pw_below_drewN | apply below_drew1 | refine below_set ?_ (IsS64.ge HI324.out) | refine below_set ?_ GE323.out | refine below_set ?_ GE328.out) | exact HB.out)))); have n1_ := aM (bB (g := gb323) (o := .cells #[.int .i64 0, .int .i64 0, .int .i64 0, .slice none 0 0] 25 (0, 0)) (bk BK323.out) hb); have n2_ := aM (bB (g := gb328) (o := .cells #[.int .i64 t325, .int .i64 t329, .int .i64 t332, .slice none 0 0] 25 (0, 0)) (bk BK328.out) hb); have n3_ := aM (IsS64.below (by repeat (first | (with_reducible first | exact HI324.out | apply IsS64.alloc | apply IsS64.drewN | apply IsS64.drew | apply IsS64.set_1 | apply IsS64.set_2 | apply IsS64.put_0 (hx_ := ⟨HR0.out, HC0.out⟩) | refine IsS64.far ?_ NB324_323.out _ | refine IsS64.far ?_ NB324_328.out _) | exact HI324.out)) hb); have n4_ := aM (bS (by repeat (first | (with_reducible first | exact HB.out | apply below_alloc | apply pw_below_drewN | apply below_drew1 | refine below_set ?_ (IsS64.ge HI324.out) | refine below_set ?_ GE323.out | refine below_set ?_ GE328.out) | exact HB.out)) hb); clear BK323 BK328; clear HI324 HB; have HO341 := n0_; have BK323 := n1_; have BK328 := n2_; have HI324 := n3_; have HB := n4_; clear n0_ n1_ n2_ n3_ n4_; (try clear hb); (try clear ho0); obtain ⟨Ao68, co68, eo68⟩ := Kd.R_slice HO341.out; subst eo68; have hnb69 := NB328_323.out; have hnc69 := NB323_328.out; have hnb70 := NB328_324.out; have hnc70 := NB324_328.out; have hcz71_0 := cI BK328.out 0; have hcz71_1 := cI BK328.out 1; have hcz71_2 := cI BK328.out 2; have hcz71_3 := cI BK328.out 3; have hfz71_0 := bF BK328.out 0; have hfz71_1 := bF BK328.out 1; have hfz71_2 := bF BK328.out 2; have hfz71_3 := bF BK328.out 3) | ((with_reducible refine gate_callee (f := 16) rfl ?_); refine goesL_ (some 43) rfl rfl Try.func16 (by kernel_rfl) rfl #[.agg #[.int .i64 t325, .int .i64 t329, .int .i64 t332, .slice Ao68 t339.length co68]] rfl xR ?_; (with_reducible refine (impl_FrameOk.calls t325 t329 t332 _ _ t339 false _ ?side1 ?side2 A33.out).mono ?_); (case side1 => refine (Kd.R_reads' (e := 5) (base := w.heap.size) (ok := fun k_ => True) (n := t339.length) (c := co68) ?_).2.2; exact (kr (Kd.R_mono (kF (p := ⟨gb328, 3, none⟩) (Kd.R_types HO341.out BK328.out (by decide)) (fun _ hk => hk.2) (.slice Ao68 t339.length co68)) (fun _ h_ => h_.1)))); (case side2 => exact (Kd.R_reads' HO341.out).2.1); rintro e w72 ⟨rfl, hb⟩; refine ⟨_, rfl, ?_⟩; have n0_ := aM (kB (kr (Kd.R_mono (kF (p := ⟨gb328, 3, none⟩) (Kd.R_types HO341.out BK328.out (by decide)) (fun _ hk => hk.2) (.slice Ao68 t339.length co68)) (fun _ h_ => h_.1))) hb); have n1_ := aM (bB (g := gb323) (o := .cells #[.int .i64 0, .int .i64 0, .int .i64 0, .slice none 0 0] 25 (0, 0)) (by (with_reducible repeat (first | refine blk_drewN ?_ _ | refine blk_drew ?_ | refine blk_alloc ?_ _)); refine blk_far ?_ NB323_328.out _; (with_reducible repeat (first | refine blk_drewN ?_ _ | refine blk_drew ?_ | refine blk_alloc ?_ _)); exact BK323.out) hb); have n2_ := aM (bB (g := gb328) (o := .cells #[.int .i64 t325, .int .i64 t329, .int .i64 t332, .slice Ao68 t339.length co68] 25 (0, 0)) (by (with_reducible repeat (first | refine blk_drewN ?_ _ | refine blk_drew ?_ | refine blk_alloc ?_ _)); refine blk_put (cs := #[.int .i64 t325, .int .i64 t329, .int .i64 t332, .slice none 0 0]) ?_ 3 _ rfl; (with_reducible repeat (first | refine blk_drewN ?_ _ | refine blk_drew ?_ | refine blk_alloc ?_ _)); exact BK328.out) hb); have n3_ := aM (IsS64.below (show IsS64 w (w67.setCell ⟨gb328, 3, none⟩ (.slice Ao68 t339.length co68)) gb324 l0 t336 t337 from by repeat (first | (with_reducible first | exact HI324.out | apply IsS64.alloc | apply IsS64.drewN | apply IsS64.drew | apply IsS64.set_1 | apply IsS64.set_2 | apply IsS64.put_0 (hx_ := ⟨HR0.out, HC0.out⟩) | refine IsS64.far ?_ NB324_323.out _ | refine IsS64.far ?_ NB324_328.out _) | exact HI324.out)) hb); have n4_ := aM (bS (by repeat (first | (with_reducible first | exact HB.out | apply below_alloc | apply pw_below_drewN | apply below_drew1 | refine below_set ?_ (IsS64.ge HI324.out) | refine below_set ?_ GE323.out | refine below_set ?_ GE328.out) | exact HB.out)) hb); clear HO341 BK323; clear BK328 HI324 HB; have HO341 := n0_; have BK323 := n1_; have BK328 := n2_; have HI324 := n3_; have HB := n4_; clear n0_ n1_ n2_ n3_ n4_; (try clear hb); have hnb73 := NB323_324.out; have hnc73 := NB324_323.out; have hcz74_0 := cI BK323.out 0; have hcz74_1 := cI BK323.out 1; have hcz74_2 := cI BK323.out 2; have hcz74_3 := cI BK323.out 3; have hfz74_0 := bF BK323.out 0; have hfz74_1 := bF BK323.out 1; have hfz74_2 := bF BK323.out 2; have hfz74_3 := bF BK323.out 3))
    refine bodyPost_ret (results_ct rfl _ _ gb323 25 #[.int .i64 0, .int .i64 0, .int .i64 0, .slice none 0 0] (0, 0) _ rfl (by (with_reducible repeat (first | refine blk_drewN ?_ _ | refine blk_drew ?_ | refine blk_alloc ?_ _)); refine blk_put (cs := #[.int .i64 0, .int .i64 0, .int .i64 0, .slice none 0 0]) ?_ 3 _ rfl; (with_reducible repeat (first | refine blk_drewN ?_ _ | refine blk_drew ?_ | refine blk_alloc ?_ _)); refine blk_put (cs := #[.int .i64 0, .int .i64 0, .int .i64 0, .slice none 0 0]) ?_ 2 _ rfl; (with_reducible repeat (first | refine blk_drewN ?_ _ | refine blk_drew ?_ | refine blk_alloc ?_ _)); refine blk_put (cs := #[.int .i64 0, .int .i64 0, .int .i64 0, .slice none 0 0]) ?_ 1 _ rfl; (with_reducible repeat (first | refine blk_drewN ?_ _ | refine blk_drew ?_ | refine blk_alloc ?_ _)); refine blk_put (cs := #[.int .i64 0, .int .i64 0, .int .i64 0, .slice none 0 0]) ?_ 0 _ rfl; (with_reducible repeat (first | refine blk_drewN ?_ _ | refine blk_drew ?_ | refine blk_alloc ?_ _)); exact BK323.out) Try.underlying25 rfl (by kernel_rfl)) rfl ?_
    exact ⟨_, xW, by first | exact Kd.R_nil _ _ _ _ _ | exact Kd.N_nil _ _ _ _ _ | exact Kd.V_nil _ _ _ _ _ | exact Kd.Q_nil _ _ _ _ _ | exact Kd.S_nil _ _ _ _ _, by repeat (first | (with_reducible first | exact HB.out | apply below_alloc | apply pw_below_drewN | apply below_drew1 | refine below_set ?_ (IsS64.ge HI324.out) | refine below_set ?_ GE323.out | refine below_set ?_ GE328.out) | exact HB.out)⟩
   subst c34
   have H1 : ((impl_FrameBytes.f kj5 t325 t329 t332 t339).bind fun t343 => ((bytes_Equal.f t343 l0).bind fun t346 => (if t346 = true then (some (t325, t329, t332, t339, true)) else (some (0, 0, 0, ([] : List Int), false))))) = some (r1, r2, r3, r4, r5) := by rw [if_pos rfl] at H; exact H
   clear H
   have H := H1
   clear H1
   replace H := Option.bind_eq_some_iff.mp H
   obtain ⟨t343, A350, H⟩ := H
   replace H : ((bytes_Equal.f t343 l0).bind fun t346 => (if t346 = true then (some (t325, t329, t332, t339, true)) else (some (0, 0, 0, ([] : List Int), false)))) = some (r1, r2, r3, r4, r5) := H
   have A35 := aM A350
   clear A350
   replace H := Option.bind_eq_some_iff.mp H
   obtain ⟨t346, A360, H⟩ := H
   replace H : (if t346 = true then (some (t325, t329, t332, t339, true)) else (some (0, 0, 0, ([] : List Int), false))) = some (r1, r2, r3, r4, r5) := H
   have A36 := aM A360
   clear A360
   by_cases c37 : t346 = true
   case pos =>
    subst c37
    have H1 : (some (t325, t329, t332, t339, true)) = some (r1, r2, r3, r4, r5) := by rw [if_pos rfl] at H; exact H
    clear H
    have H := H1
    clear H1
    simp only [Option.some.injEq, Prod.mk.injEq] at H
    obtain ⟨rfl, rfl, rfl, rfl, rfl⟩ := H
    obtain ⟨ASz38_0, cSz38_0, HGz38, hgz38, HSz38_0⟩ := HI324.out
    have hcz38_0 := cellS64_0 HGz38
    have hcz38_1 := cellS64_1 HGz38
    have hcz38_2 := cellS64_2 HGz38
    have hfz38_0 := bF HGz38 0
    have hfz38_1 := bF HGz38 1
    have hfz38_2 := bF HGz38 2
    clear HGz38 hgz38
    obtain ⟨i039, hi039, _, hsz39, _⟩ := info_parts info5
    obtain ⟨A39, hcut39, hA39, hC39⟩ := print_mid_of (P := Try.prog) (Value.int .u8) 0 22 5 .i64 .i64 Try.underlying22 hi039 hsz39 A0 c0 l0 t336 (wrap64 (t336 + t335)) (of_decide_eq_true (by first | (with_reducible assumption) | assumption)) (by first | omega | exact of_decide_eq_true (by first | (with_reducible assumption) | assumption)) (of_decide_eq_true (by first | (with_reducible assumption) | assumption)) HC0.out
    have HR338 := aM (Kd.C_of_reads (h1 := fun _ => rfl) (hA39 _ (Kd.reads_of_C HR0.out)))
    have HC338 := aM hC39
    clear hA39 hC39 hi039 hsz39
    go_wp2_with (first | ((with_reducible refine gate_callee (f := 47) rfl ?_); refine goesL_ (some 40) rfl rfl Try.func47 (by kernel_rfl) rfl #[.slice A39 ((l0.take ((wrap64 (t336 + t335)) : Int).toNat).drop (t336 : Int).toNat).length (c0 - t336.toNat)] rfl (by (try simp only [List.map_toArray, List.map_cons, List.map_nil]); first | done | (rw [show ((l0.take ((wrap64 (t336 + t335)) : Int).toNat).drop (t336 : Int).toNat).length = ((wrap64 (t336 + t335)).toNat - t336.toNat) from (by rw [List.length_drop, List.length_take]; have h_ : ((wrap64 (t336 + t335)) : Int) ≤ (l0.length : Int) := of_decide_eq_true (by first | (with_reducible assumption) | assumption); omega)] <;> rfl) | rfl | (simp only [List.length_drop, List.length_take]; rfl)) ?_; (with_reducible refine (slices_Clone_byte_byte.calls _ _ ((l0.take ((wrap64 (t336 + t335)) : Int).toNat).drop (t336 : Int).toNat) t339 _ ?side1 ?side2 A32.out).mono ?_); (case side1 => repeat (first | exact (cB HR338.out HB.out) | (with_reducible refine Kd.C_alloc ?_ _) | (with_reducible refine Kd.C_drewN ?_ _) | (with_reducible refine Kd.C_drew ?_))); (case side2 => exact HC338.out); rintro e w40 ⟨v340, rfl, ho0, hb⟩; refine ⟨_, rfl, ?_⟩; have n0_ := aM (Kd.R_lower ho0 (below_size (by repeat (first | (with_reducible first | exact HB.out | apply below_alloc | apply pw_below_drewN | apply below_drew1 | refine below_set ?_ (IsS64.ge HI324.out) | refine below_set ?_ GE323.out | refine below_set ?_ GE328.out) | exact HB.out)))); have n1_ := aM (bB (g := gb323) (o := .cells #[.int .i64 0, .int .i64 0, .int .i64 0, .slice none 0 0] 25 (0, 0)) (bk BK323.out) hb); have n2_ := aM (bB (g := gb328) (o := .cells #[.int .i64 t325, .int .i64 t329, .int .i64 t332, .slice none 0 0] 25 (0, 0)) (bk BK328.out) hb); have n3_ := aM (IsS64.below (by repeat (first | (with_reducible first | exact HI324.out | apply IsS64.alloc | apply IsS64.drewN | apply IsS64.drew | apply IsS64.set_1 | apply IsS64.set_2 | apply IsS64.put_0 (hx_ := ⟨HR0.out, HC0.out⟩) | refine IsS64.far ?_ NB324_323.out _ | refine IsS64.far ?_ NB324_328.out _) | exact HI324.out)) hb); have n4_ := aM (bS (by repeat (first | (with_reducible first | exact HB.out | apply below_alloc | apply pw_below_drewN | apply below_drew1 | refine below_set ?_ (IsS64.ge HI324.out) | refine below_set ?_ GE323.out | refine below_set ?_ GE328.out) | exact HB.out)) hb); clear BK323 BK328; clear HI324 HB; have HO341 := n0_; have BK323 := n1_; have BK328 := n2_; have HI324 := n3_; have HB := n4_; clear n0_ n1_ n2_ n3_ n4_; (try clear hb); (try clear ho0); obtain ⟨Ao41, co41, eo41⟩ := Kd.R_slice HO341.out; subst eo41; have hnb42 := NB328_323.out; have hnc42 := NB323_328.out; have hnb43 := NB328_324.out; have hnc43 := NB324_328.out; have hcz44_0 := cI BK328.out 0; have hcz44_1 := cI BK328.out 1; have hcz44_2 := cI BK328.out 2; have hcz44_3 := cI BK328.out 3; have hfz44_0 := bF BK328.out 0; have hfz44_1 := bF BK328.out 1; have hfz44_2 := bF BK328.out 2; have hfz44_3 := bF BK328.out 3) | ((with_reducible refine gate_callee (f := 16) rfl ?_); refine goesL_ (some 43) rfl rfl Try.func16 (by kernel_rfl) rfl #[.agg #[.int .i64 t325, .int .i64 t329, .int .i64 t332, .slice Ao41 t339.length co41]] rfl xR ?_; (with_reducible refine (impl_FrameOk.calls t325 t329 t332 _ _ t339 true _ ?side1 ?side2 A33.out).mono ?_); (case side1 => refine (Kd.R_reads' (e := 5) (base := w.heap.size) (ok := fun k_ => True) (n := t339.length) (c := co41) ?_).2.2; exact (kr (Kd.R_mono (kF (p := ⟨gb328, 3, none⟩) (Kd.R_types HO341.out BK328.out (by decide)) (fun _ hk => hk.2) (.slice Ao41 t339.length co41)) (fun _ h_ => h_.1)))); (case side2 => exact (Kd.R_reads' HO341.out).2.1); rintro e w45 ⟨rfl, hb⟩; refine ⟨_, rfl, ?_⟩; have n0_ := aM (kB (kr (Kd.R_mono (kF (p := ⟨gb328, 3, none⟩) (Kd.R_types HO341.out BK328.out (by decide)) (fun _ hk => hk.2) (.slice Ao41 t339.length co41)) (fun _ h_ => h_.1))) hb); have n1_ := aM (bB (g := gb323) (o := .cells #[.int .i64 0, .int .i64 0, .int .i64 0, .slice none 0 0] 25 (0, 0)) (by (with_reducible repeat (first | refine blk_drewN ?_ _ | refine blk_drew ?_ | refine blk_alloc ?_ _)); refine blk_far ?_ NB323_328.out _; (with_reducible repeat (first | refine blk_drewN ?_ _ | refine blk_drew ?_ | refine blk_alloc ?_ _)); exact BK323.out) hb); have n2_ := aM (bB (g := gb328) (o := .cells #[.int .i64 t325, .int .i64 t329, .int .i64 t332, .slice Ao41 t339.length co41] 25 (0, 0)) (by (with_reducible repeat (first | refine blk_drewN ?_ _ | refine blk_drew ?_ | refine blk_alloc ?_ _)); refine blk_put (cs := #[.int .i64 t325, .int .i64 t329, .int .i64 t332, .slice none 0 0]) ?_ 3 _ rfl; (with_reducible repeat (first | refine blk_drewN ?_ _ | refine blk_drew ?_ | refine blk_alloc ?_ _)); exact BK328.out) hb); have n3_ := aM (IsS64.below (show IsS64 w (w40.setCell ⟨gb328, 3, none⟩ (.slice Ao41 t339.length co41)) gb324 l0 t336 t337 from by repeat (first | (with_reducible first | exact HI324.out | apply IsS64.alloc | apply IsS64.drewN | apply IsS64.drew | apply IsS64.set_1 | apply IsS64.set_2 | apply IsS64.put_0 (hx_ := ⟨HR0.out, HC0.out⟩) | refine IsS64.far ?_ NB324_323.out _ | refine IsS64.far ?_ NB324_328.out _) | exact HI324.out)) hb); have n4_ := aM (bS (by repeat (first | (with_reducible first | exact HB.out | apply below_alloc | apply pw_below_drewN | apply below_drew1 | refine below_set ?_ (IsS64.ge HI324.out) | refine below_set ?_ GE323.out | refine below_set ?_ GE328.out) | exact HB.out)) hb); clear HO341 BK323; clear BK328 HI324 HB; have HO341 := n0_; have BK323 := n1_; have BK328 := n2_; have HI324 := n3_; have HB := n4_; clear n0_ n1_ n2_ n3_ n4_; (try clear hb); have hcz46_0 := cI BK328.out 0; have hcz46_1 := cI BK328.out 1; have hcz46_2 := cI BK328.out 2; have hcz46_3 := cI BK328.out 3; have hfz46_0 := bF BK328.out 0; have hfz46_1 := bF BK328.out 1; have hfz46_2 := bF BK328.out 2; have hfz46_3 := bF BK328.out 3) | (go_at_call 8; (with_reducible refine (impl_FrameBytes.calls kj5 t325 t329 t332 _ _ t339 t343 _ ?side1 ?side2 A35.out).mono ?_); (case side1 => repeat (first | exact (Kd.R_reads' HO341.out).2.2 | (with_reducible refine Kd.C_alloc ?_ _) | (with_reducible refine Kd.C_drewN ?_ _) | (with_reducible refine Kd.C_drew ?_))); (case side2 => exact (Kd.R_reads' HO341.out).2.1); rintro e w47 ⟨v344, rfl, ho0, hb⟩; have n0_ := aM (Kd.R_elder' (kr HO341.out) (Kd.R_base ho0) hb); have n1_ := aM (Kd.R_lower (Kd.R_new' ho0 (Kd.R_lt (kr HO341.out))) (below_size (by repeat (first | (with_reducible first | exact HB.out | apply below_alloc | apply pw_below_drewN | apply below_drew1 | refine below_set ?_ (IsS64.ge HI324.out) | refine below_set ?_ GE323.out | refine below_set ?_ GE328.out) | exact HB.out)))); have n2_ := aM (bB (g := gb323) (o := .cells #[.int .i64 0, .int .i64 0, .int .i64 0, .slice none 0 0] 25 (0, 0)) (bk BK323.out) hb); have n3_ := aM (bB (g := gb328) (o := .cells #[.int .i64 t325, .int .i64 t329, .int .i64 t332, .slice Ao41 t339.length co41] 25 (0, 0)) (bk BK328.out) hb); have n4_ := aM (IsS64.below (by repeat (first | (with_reducible first | exact HI324.out | apply IsS64.alloc | apply IsS64.drewN | apply IsS64.drew | apply IsS64.set_1 | apply IsS64.set_2 | apply IsS64.put_0 (hx_ := ⟨HR0.out, HC0.out⟩) | refine IsS64.far ?_ NB324_323.out _ | refine IsS64.far ?_ NB324_328.out _) | exact HI324.out)) hb); have n5_ := aM (bS (by repeat (first | (with_reducible first | exact HB.out | apply below_alloc | apply pw_below_drewN | apply below_drew1 | refine below_set ?_ (IsS64.ge HI324.out) | refine below_set ?_ GE323.out | refine below_set ?_ GE328.out) | exact HB.out)) hb); clear HO341 BK323; clear BK328 HI324 HB; have HO341 := n0_; have HO345 := n1_; have BK323 := n2_; have BK328 := n3_; have HI324 := n4_; have HB := n5_; clear n0_ n1_ n2_ n3_ n4_ n5_; (try clear hb); (try clear ho0); obtain ⟨Ao48, co48, eo48⟩ := Kd.R_slice HO345.out; subst eo48) | (go_at_call 48; (with_reducible refine (bytes_Equal.calls _ _ t343 _ _ l0 true _ ?side1 ?side2 ?side3 ?side4 A36.out).mono ?_); (case side1 => repeat (first | exact (Kd.R_reads' HO345.out).2.2 | (with_reducible refine Kd.C_alloc ?_ _) | (with_reducible refine Kd.C_drewN ?_ _) | (with_reducible refine Kd.C_drew ?_))); (case side2 => exact (Kd.R_reads' HO345.out).2.1); (case side3 => repeat (first | exact (cB HR0.out HB.out) | (with_reducible refine Kd.C_alloc ?_ _) | (with_reducible refine Kd.C_drewN ?_ _) | (with_reducible refine Kd.C_drew ?_))); (case side4 => exact HC0.out); rintro e w' ⟨rfl, ⟨nd, rfl⟩⟩; (try (rw [drewN_self w47]; generalize hq_ : World.drewN w47 _ = w47; have n0_ : Aside0 (Kd.R (Kd.int .u8) 5 w47 w.heap.size (fun k_ => some k_ ≠ (.slice Ao48 t343.length co48 : Value).ownBlock) (.slice Ao41 t339.length co41) t339) := ⟨by rw [← hq_]; exact (kr (Kd.R_mono HO341.out (fun _ hk => hk.2)))⟩; have n1_ : Aside0 (Kd.R (Kd.int .u8) 5 w47 w.heap.size (fun k_ => some k_ ≠ (.slice Ao41 t339.length co41 : Value).ownBlock) (.slice Ao48 t343.length co48) t343) := ⟨by rw [← hq_]; exact (kr (Kd.R_mono HO345.out (fun _ hk => hk.2)))⟩; have n2_ : Aside0 (w47.heap[gb323]? = some (.cells #[.int .i64 0, .int .i64 0, .int .i64 0, .slice none 0 0] 25 (0, 0))) := ⟨by rw [← hq_]; exact (bk BK323.out)⟩; have n3_ : Aside0 (w47.heap[gb328]? = some (.cells #[.int .i64 t325, .int .i64 t329, .int .i64 t332, .slice Ao41 t339.length co41] 25 (0, 0))) := ⟨by rw [← hq_]; exact (bk BK328.out)⟩; have n4_ : Aside0 (IsS64 w w47 gb324 l0 t336 t337) := ⟨by rw [← hq_]; exact (by repeat (first | (with_reducible first | exact HI324.out | apply IsS64.alloc | apply IsS64.drewN | apply IsS64.drew | apply IsS64.set_1 | apply IsS64.set_2 | apply IsS64.put_0 (hx_ := ⟨HR0.out, HC0.out⟩) | refine IsS64.far ?_ NB324_323.out _ | refine IsS64.far ?_ NB324_328.out _) | exact HI324.out))⟩; have n5_ : Aside0 (Below w.heap.size w w47) := ⟨by rw [← hq_]; exact (by repeat (first | (with_reducible first | exact HB.out | apply below_alloc | apply pw_below_drewN | apply below_drew1 | refine below_set ?_ (IsS64.ge HI324.out) | refine below_set ?_ GE323.out | refine below_set ?_ GE328.out) | exact HB.out))⟩; clear HO341 HO345 BK323 BK328 HI324 HB hq_; have HO341 := n0_; have HO345 := n1_; have BK323 := n2_; have BK328 := n3_; have HI324 := n4_; have HB := n5_; clear n0_ n1_ n2_ n3_ n4_ n5_)); have hcz49_0 := cI BK328.out 0; have hcz49_1 := cI BK328.out 1; have hcz49_2 := cI BK328.out 2; have hcz49_3 := cI BK328.out 3; have hfz49_0 := bF BK328.out 0; have hfz49_1 := bF BK328.out 1; have hfz49_2 := bF BK328.out 2; have hfz49_3 := bF BK328.out 3; have hnb50 := NB323_324.out; have hnc50 := NB324_323.out; have hcz51_0 := cI BK323.out 0; have hcz51_1 := cI BK323.out 1; have hcz51_2 := cI BK323.out 2; have hcz51_3 := cI BK323.out 3; have hfz51_0 := bF BK323.out 0; have hfz51_1 := bF BK323.out 1; have hfz51_2 := bF BK323.out 2; have hfz51_3 := bF BK323.out 3))
    refine bodyPost_ret (results_ct rfl _ _ gb323 25 #[.int .i64 t325, .int .i64 t329, .int .i64 t332, .slice Ao41 t339.length co41] (0, 0) _ rfl (by (with_reducible repeat (first | refine blk_drewN ?_ _ | refine blk_drew ?_ | refine blk_alloc ?_ _)); refine blk_put (cs := #[.int .i64 t325, .int .i64 t329, .int .i64 t332, .slice none 0 0]) ?_ 3 _ rfl; (with_reducible repeat (first | refine blk_drewN ?_ _ | refine blk_drew ?_ | refine blk_alloc ?_ _)); refine blk_put (cs := #[.int .i64 t325, .int .i64 t329, .int .i64 0, .slice none 0 0]) ?_ 2 _ rfl; (with_reducible repeat (first | refine blk_drewN ?_ _ | refine blk_drew ?_ | refine blk_alloc ?_ _)); refine blk_put (cs := #[.int .i64 t325, .int .i64 0, .int .i64 0, .slice none 0 0]) ?_ 1 _ rfl; (with_reducible repeat (first | refine blk_drewN ?_ _ | refine blk_drew ?_ | refine blk_alloc ?_ _)); refine blk_put (cs := #[.int .i64 0, .int .i64 0, .int .i64 0, .slice none 0 0]) ?_ 0 _ rfl; (with_reducible repeat (first | refine blk_drewN ?_ _ | refine blk_drew ?_ | refine blk_alloc ?_ _)); exact BK323.out) Try.underlying25 rfl (by kernel_rfl)) rfl ?_
    exact ⟨_, xW, by (with_reducible repeat (first | apply Kd.R_alloc | apply Kd.R_drewN | apply Kd.R_drew)); exact Kd.R_mono (kF (p := ⟨gb323, 3, none⟩) (kF (p := ⟨gb323, 2, none⟩) (kF (p := ⟨gb323, 1, none⟩) (kF (p := ⟨gb323, 0, none⟩) (Kd.R_types HO341.out BK323.out (by decide)) (fun _ hk => hk.2) (.int .i64 t325)) (fun _ hk => hk.2) (.int .i64 t329)) (fun _ hk => hk.2) (.int .i64 t332)) (fun _ hk => hk.2) (.slice Ao41 t339.length co41)) (fun _ hk => trivial), by repeat (first | (with_reducible first | exact HB.out | apply below_alloc | apply pw_below_drewN | apply below_drew1 | refine below_set ?_ (IsS64.ge HI324.out) | refine below_set ?_ GE323.out | refine below_set ?_ GE328.out) | exact HB.out)⟩
   replace c37 := Bool.eq_false_iff.mpr c37
   subst c37
   have H1 : (some (0, 0, 0, ([] : List Int), false)) = some (r1, r2, r3, r4, r5) := by rw [if_neg (show ¬ (false = true) by decide)] at H; exact H
   clear H
   have H := H1
   clear H1
   simp only [Option.some.injEq, Prod.mk.injEq] at H
   obtain ⟨rfl, rfl, rfl, rfl, rfl⟩ := H
   obtain ⟨ASz52_0, cSz52_0, HGz52, hgz52, HSz52_0⟩ := HI324.out
   have hcz52_0 := cellS64_0 HGz52
   have hcz52_1 := cellS64_1 HGz52
   have hcz52_2 := cellS64_2 HGz52
   have hfz52_0 := bF HGz52 0
   have hfz52_1 := bF HGz52 1
   have hfz52_2 := bF HGz52 2
   clear HGz52 hgz52
   obtain ⟨i053, hi053, _, hsz53, _⟩ := info_parts info5
   obtain ⟨A53, hcut53, hA53, hC53⟩ := print_mid_of (P := Try.prog) (Value.int .u8) 0 22 5 .i64 .i64 Try.underlying22 hi053 hsz53 A0 c0 l0 t336 (wrap64 (t336 + t335)) (of_decide_eq_true (by first | (with_reducible assumption) | assumption)) (by first | omega | exact of_decide_eq_true (by first | (with_reducible assumption) | assumption)) (of_decide_eq_true (by first | (with_reducible assumption) | assumption)) HC0.out
   have HR338 := aM (Kd.C_of_reads (h1 := fun _ => rfl) (hA53 _ (Kd.reads_of_C HR0.out)))
   have HC338 := aM hC53
   clear hA53 hC53 hi053 hsz53
   go_wp2_with (first | ((with_reducible refine gate_callee (f := 47) rfl ?_); refine goesL_ (some 40) rfl rfl Try.func47 (by kernel_rfl) rfl #[.slice A53 ((l0.take ((wrap64 (t336 + t335)) : Int).toNat).drop (t336 : Int).toNat).length (c0 - t336.toNat)] rfl (by (try simp only [List.map_toArray, List.map_cons, List.map_nil]); first | done | (rw [show ((l0.take ((wrap64 (t336 + t335)) : Int).toNat).drop (t336 : Int).toNat).length = ((wrap64 (t336 + t335)).toNat - t336.toNat) from (by rw [List.length_drop, List.length_take]; have h_ : ((wrap64 (t336 + t335)) : Int) ≤ (l0.length : Int) := of_decide_eq_true (by first | (with_reducible assumption) | assumption); omega)] <;> rfl) | rfl | (simp only [List.length_drop, List.length_take]; rfl)) ?_; (with_reducible refine (slices_Clone_byte_byte.calls _ _ ((l0.take ((wrap64 (t336 + t335)) : Int).toNat).drop (t336 : Int).toNat) t339 _ ?side1 ?side2 A32.out).mono ?_); (case side1 => repeat (first | exact (cB HR338.out HB.out) | (with_reducible refine Kd.C_alloc ?_ _) | (with_reducible refine Kd.C_drewN ?_ _) | (with_reducible refine Kd.C_drew ?_))); (case side2 => exact HC338.out); rintro e w54 ⟨v340, rfl, ho0, hb⟩; refine ⟨_, rfl, ?_⟩; have n0_ := aM (Kd.R_lower ho0 (below_size (by repeat (first | (with_reducible first | exact HB.out | apply below_alloc | apply pw_below_drewN | apply below_drew1 | refine below_set ?_ (IsS64.ge HI324.out) | refine below_set ?_ GE323.out | refine below_set ?_ GE328.out) | exact HB.out)))); have n1_ := aM (bB (g := gb323) (o := .cells #[.int .i64 0, .int .i64 0, .int .i64 0, .slice none 0 0] 25 (0, 0)) (bk BK323.out) hb); have n2_ := aM (bB (g := gb328) (o := .cells #[.int .i64 t325, .int .i64 t329, .int .i64 t332, .slice none 0 0] 25 (0, 0)) (bk BK328.out) hb); have n3_ := aM (IsS64.below (by repeat (first | (with_reducible first | exact HI324.out | apply IsS64.alloc | apply IsS64.drewN | apply IsS64.drew | apply IsS64.set_1 | apply IsS64.set_2 | apply IsS64.put_0 (hx_ := ⟨HR0.out, HC0.out⟩) | refine IsS64.far ?_ NB324_323.out _ | refine IsS64.far ?_ NB324_328.out _) | exact HI324.out)) hb); have n4_ := aM (bS (by repeat (first | (with_reducible first | exact HB.out | apply below_alloc | apply pw_below_drewN | apply below_drew1 | refine below_set ?_ (IsS64.ge HI324.out) | refine below_set ?_ GE323.out | refine below_set ?_ GE328.out) | exact HB.out)) hb); clear BK323 BK328; clear HI324 HB; have HO341 := n0_; have BK323 := n1_; have BK328 := n2_; have HI324 := n3_; have HB := n4_; clear n0_ n1_ n2_ n3_ n4_; (try clear hb); (try clear ho0); obtain ⟨Ao55, co55, eo55⟩ := Kd.R_slice HO341.out; subst eo55; have hnb56 := NB328_323.out; have hnc56 := NB323_328.out; have hnb57 := NB328_324.out; have hnc57 := NB324_328.out; have hcz58_0 := cI BK328.out 0; have hcz58_1 := cI BK328.out 1; have hcz58_2 := cI BK328.out 2; have hcz58_3 := cI BK328.out 3; have hfz58_0 := bF BK328.out 0; have hfz58_1 := bF BK328.out 1; have hfz58_2 := bF BK328.out 2; have hfz58_3 := bF BK328.out 3) | ((with_reducible refine gate_callee (f := 16) rfl ?_); refine goesL_ (some 43) rfl rfl Try.func16 (by kernel_rfl) rfl #[.agg #[.int .i64 t325, .int .i64 t329, .int .i64 t332, .slice Ao55 t339.length co55]] rfl xR ?_; (with_reducible refine (impl_FrameOk.calls t325 t329 t332 _ _ t339 true _ ?side1 ?side2 A33.out).mono ?_); (case side1 => refine (Kd.R_reads' (e := 5) (base := w.heap.size) (ok := fun k_ => True) (n := t339.length) (c := co55) ?_).2.2; exact (kr (Kd.R_mono (kF (p := ⟨gb328, 3, none⟩) (Kd.R_types HO341.out BK328.out (by decide)) (fun _ hk => hk.2) (.slice Ao55 t339.length co55)) (fun _ h_ => h_.1)))); (case side2 => exact (Kd.R_reads' HO341.out).2.1); rintro e w59 ⟨rfl, hb⟩; refine ⟨_, rfl, ?_⟩; have n0_ := aM (kB (kr (Kd.R_mono (kF (p := ⟨gb328, 3, none⟩) (Kd.R_types HO341.out BK328.out (by decide)) (fun _ hk => hk.2) (.slice Ao55 t339.length co55)) (fun _ h_ => h_.1))) hb); have n1_ := aM (bB (g := gb323) (o := .cells #[.int .i64 0, .int .i64 0, .int .i64 0, .slice none 0 0] 25 (0, 0)) (by (with_reducible repeat (first | refine blk_drewN ?_ _ | refine blk_drew ?_ | refine blk_alloc ?_ _)); refine blk_far ?_ NB323_328.out _; (with_reducible repeat (first | refine blk_drewN ?_ _ | refine blk_drew ?_ | refine blk_alloc ?_ _)); exact BK323.out) hb); have n2_ := aM (bB (g := gb328) (o := .cells #[.int .i64 t325, .int .i64 t329, .int .i64 t332, .slice Ao55 t339.length co55] 25 (0, 0)) (by (with_reducible repeat (first | refine blk_drewN ?_ _ | refine blk_drew ?_ | refine blk_alloc ?_ _)); refine blk_put (cs := #[.int .i64 t325, .int .i64 t329, .int .i64 t332, .slice none 0 0]) ?_ 3 _ rfl; (with_reducible repeat (first | refine blk_drewN ?_ _ | refine blk_drew ?_ | refine blk_alloc ?_ _)); exact BK328.out) hb); have n3_ := aM (IsS64.below (show IsS64 w (w54.setCell ⟨gb328, 3, none⟩ (.slice Ao55 t339.length co55)) gb324 l0 t336 t337 from by repeat (first | (with_reducible first | exact HI324.out | apply IsS64.alloc | apply IsS64.drewN | apply IsS64.drew | apply IsS64.set_1 | apply IsS64.set_2 | apply IsS64.put_0 (hx_ := ⟨HR0.out, HC0.out⟩) | refine IsS64.far ?_ NB324_323.out _ | refine IsS64.far ?_ NB324_328.out _) | exact HI324.out)) hb); have n4_ := aM (bS (by repeat (first | (with_reducible first | exact HB.out | apply below_alloc | apply pw_below_drewN | apply below_drew1 | refine below_set ?_ (IsS64.ge HI324.out) | refine below_set ?_ GE323.out | refine below_set ?_ GE328.out) | exact HB.out)) hb); clear HO341 BK323; clear BK328 HI324 HB; have HO341 := n0_; have BK323 := n1_; have BK328 := n2_; have HI324 := n3_; have HB := n4_; clear n0_ n1_ n2_ n3_ n4_; (try clear hb); have hcz60_0 := cI BK328.out 0; have hcz60_1 := cI BK328.out 1; have hcz60_2 := cI BK328.out 2; have hcz60_3 := cI BK328.out 3; have hfz60_0 := bF BK328.out 0; have hfz60_1 := bF BK328.out 1; have hfz60_2 := bF BK328.out 2; have hfz60_3 := bF BK328.out 3) | (go_at_call 8; (with_reducible refine (impl_FrameBytes.calls kj5 t325 t329 t332 _ _ t339 t343 _ ?side1 ?side2 A35.out).mono ?_); (case side1 => repeat (first | exact (Kd.R_reads' HO341.out).2.2 | (with_reducible refine Kd.C_alloc ?_ _) | (with_reducible refine Kd.C_drewN ?_ _) | (with_reducible refine Kd.C_drew ?_))); (case side2 => exact (Kd.R_reads' HO341.out).2.1); rintro e w61 ⟨v344, rfl, ho0, hb⟩; have n0_ := aM (Kd.R_elder' (kr HO341.out) (Kd.R_base ho0) hb); have n1_ := aM (Kd.R_lower (Kd.R_new' ho0 (Kd.R_lt (kr HO341.out))) (below_size (by repeat (first | (with_reducible first | exact HB.out | apply below_alloc | apply pw_below_drewN | apply below_drew1 | refine below_set ?_ (IsS64.ge HI324.out) | refine below_set ?_ GE323.out | refine below_set ?_ GE328.out) | exact HB.out)))); have n2_ := aM (bB (g := gb323) (o := .cells #[.int .i64 0, .int .i64 0, .int .i64 0, .slice none 0 0] 25 (0, 0)) (bk BK323.out) hb); have n3_ := aM (bB (g := gb328) (o := .cells #[.int .i64 t325, .int .i64 t329, .int .i64 t332, .slice Ao55 t339.length co55] 25 (0, 0)) (bk BK328.out) hb); have n4_ := aM (IsS64.below (by repeat (first | (with_reducible first | exact HI324.out | apply IsS64.alloc | apply IsS64.drewN | apply IsS64.drew | apply IsS64.set_1 | apply IsS64.set_2 | apply IsS64.put_0 (hx_ := ⟨HR0.out, HC0.out⟩) | refine IsS64.far ?_ NB324_323.out _ | refine IsS64.far ?_ NB324_328.out _) | exact HI324.out)) hb); have n5_ := aM (bS (by repeat (first | (with_reducible first | exact HB.out | apply below_alloc | apply pw_below_drewN | apply below_drew1 | refine below_set ?_ (IsS64.ge HI324.out) | refine below_set ?_ GE323.out | refine below_set ?_ GE328.out) | exact HB.out)) hb); clear HO341 BK323; clear BK328 HI324 HB; have HO341 := n0_; have HO345 := n1_; have BK323 := n2_; have BK328 := n3_; have HI324 := n4_; have HB := n5_; clear n0_ n1_ n2_ n3_ n4_ n5_; (try clear hb); (try clear ho0); obtain ⟨Ao62, co62, eo62⟩ := Kd.R_slice HO345.out; subst eo62) | (go_at_call 48; (with_reducible refine (bytes_Equal.calls _ _ t343 _ _ l0 false _ ?side1 ?side2 ?side3 ?side4 A36.out).mono ?_); (case side1 => repeat (first | exact (Kd.R_reads' HO345.out).2.2 | (with_reducible refine Kd.C_alloc ?_ _) | (with_reducible refine Kd.C_drewN ?_ _) | (with_reducible refine Kd.C_drew ?_))); (case side2 => exact (Kd.R_reads' HO345.out).2.1); (case side3 => repeat (first | exact (cB HR0.out HB.out) | (with_reducible refine Kd.C_alloc ?_ _) | (with_reducible refine Kd.C_drewN ?_ _) | (with_reducible refine Kd.C_drew ?_))); (case side4 => exact HC0.out); rintro e w' ⟨rfl, ⟨nd, rfl⟩⟩; (try (rw [drewN_self w61]; generalize hq_ : World.drewN w61 _ = w61; have n0_ : Aside0 (Kd.R (Kd.int .u8) 5 w61 w.heap.size (fun k_ => some k_ ≠ (.slice Ao62 t343.length co62 : Value).ownBlock) (.slice Ao55 t339.length co55) t339) := ⟨by rw [← hq_]; exact (kr (Kd.R_mono HO341.out (fun _ hk => hk.2)))⟩; have n1_ : Aside0 (Kd.R (Kd.int .u8) 5 w61 w.heap.size (fun k_ => some k_ ≠ (.slice Ao55 t339.length co55 : Value).ownBlock) (.slice Ao62 t343.length co62) t343) := ⟨by rw [← hq_]; exact (kr (Kd.R_mono HO345.out (fun _ hk => hk.2)))⟩; have n2_ : Aside0 (w61.heap[gb323]? = some (.cells #[.int .i64 0, .int .i64 0, .int .i64 0, .slice none 0 0] 25 (0, 0))) := ⟨by rw [← hq_]; exact (bk BK323.out)⟩; have n3_ : Aside0 (w61.heap[gb328]? = some (.cells #[.int .i64 t325, .int .i64 t329, .int .i64 t332, .slice Ao55 t339.length co55] 25 (0, 0))) := ⟨by rw [← hq_]; exact (bk BK328.out)⟩; have n4_ : Aside0 (IsS64 w w61 gb324 l0 t336 t337) := ⟨by rw [← hq_]; exact (by repeat (first | (with_reducible first | exact HI324.out | apply IsS64.alloc | apply IsS64.drewN | apply IsS64.drew | apply IsS64.set_1 | apply IsS64.set_2 | apply IsS64.put_0 (hx_ := ⟨HR0.out, HC0.out⟩) | refine IsS64.far ?_ NB324_323.out _ | refine IsS64.far ?_ NB324_328.out _) | exact HI324.out))⟩; have n5_ : Aside0 (Below w.heap.size w w61) := ⟨by rw [← hq_]; exact (by repeat (first | (with_reducible first | exact HB.out | apply below_alloc | apply pw_below_drewN | apply below_drew1 | refine below_set ?_ (IsS64.ge HI324.out) | refine below_set ?_ GE323.out | refine below_set ?_ GE328.out) | exact HB.out))⟩; clear HO341 HO345 BK323 BK328 HI324 HB hq_; have HO341 := n0_; have HO345 := n1_; have BK323 := n2_; have BK328 := n3_; have HI324 := n4_; have HB := n5_; clear n0_ n1_ n2_ n3_ n4_ n5_)); have hnb63 := NB323_324.out; have hnc63 := NB324_323.out; have hcz64_0 := cI BK323.out 0; have hcz64_1 := cI BK323.out 1; have hcz64_2 := cI BK323.out 2; have hcz64_3 := cI BK323.out 3; have hfz64_0 := bF BK323.out 0; have hfz64_1 := bF BK323.out 1; have hfz64_2 := bF BK323.out 2; have hfz64_3 := bF BK323.out 3))
   refine bodyPost_ret (results_ct rfl _ _ gb323 25 #[.int .i64 0, .int .i64 0, .int .i64 0, .slice none 0 0] (0, 0) _ rfl (by (with_reducible repeat (first | refine blk_drewN ?_ _ | refine blk_drew ?_ | refine blk_alloc ?_ _)); refine blk_put (cs := #[.int .i64 0, .int .i64 0, .int .i64 0, .slice none 0 0]) ?_ 3 _ rfl; (with_reducible repeat (first | refine blk_drewN ?_ _ | refine blk_drew ?_ | refine blk_alloc ?_ _)); refine blk_put (cs := #[.int .i64 0, .int .i64 0, .int .i64 0, .slice none 0 0]) ?_ 2 _ rfl; (with_reducible repeat (first | refine blk_drewN ?_ _ | refine blk_drew ?_ | refine blk_alloc ?_ _)); refine blk_put (cs := #[.int .i64 0, .int .i64 0, .int .i64 0, .slice none 0 0]) ?_ 1 _ rfl; (with_reducible repeat (first | refine blk_drewN ?_ _ | refine blk_drew ?_ | refine blk_alloc ?_ _)); refine blk_put (cs := #[.int .i64 0, .int .i64 0, .int .i64 0, .slice none 0 0]) ?_ 0 _ rfl; (with_reducible repeat (first | refine blk_drewN ?_ _ | refine blk_drew ?_ | refine blk_alloc ?_ _)); exact BK323.out) Try.underlying25 rfl (by kernel_rfl)) rfl ?_
   exact ⟨_, xW, by first | exact Kd.R_nil _ _ _ _ _ | exact Kd.N_nil _ _ _ _ _ | exact Kd.V_nil _ _ _ _ _ | exact Kd.Q_nil _ _ _ _ _ | exact Kd.S_nil _ _ _ _ _, by repeat (first | (with_reducible first | exact HB.out | apply below_alloc | apply pw_below_drewN | apply below_drew1 | refine below_set ?_ (IsS64.ge HI324.out) | refine below_set ?_ GE323.out | refine below_set ?_ GE328.out) | exact HB.out)⟩

mutual
def spec_GetNum.l0 : Nat → List Int → Int → Int → Int → Option (Int × Int × Bool)
 | 0, _, _, _, _ => none
 | k + 1, x0, x1, x7, x8 => if x8 < 5 then (if x1 < 0 then (spec_GetNum.j1 k x0 x1 x7 x8 true) else (spec_GetNum.j1 k x0 x1 x7 x8 (decide (x1 ≥ (wrap64 ((x0.length : Int) - x8)))))) else (some (0, 0, false))
def spec_GetNum.j1 : Nat → List Int → Int → Int → Int → Bool → Option (Int × Int × Bool)
 | 0, _, _, _, _, _ => none
 | k + 1, x0, x1, x7, x8, x23 => if x23 = true then (some (0, 0, false)) else (if 0 ≤ (wrap64 (x1 + x8)) then (if (wrap64 (x1 + x8)) < (x0.length : Int) then (if 0 ≤ (wrap64 (7 * x8)) then (if (wrap64 (rd x0 (wrap64 (x1 + x8)))) < 128 then (if x8 > 0 then (if (wrap64 (rd x0 (wrap64 (x1 + x8)))) = 0 then (some (0, 0, false)) else (if (Go.bits .or .i64 x7 (shl .i64 (Int.tmod (wrap64 (rd x0 (wrap64 (x1 + x8)))) 128) (wrap64 (7 * x8)))) > 2147483647 then (some (0, 0, false)) else (some (Go.bits .or .i64 x7 (shl .i64 (Int.tmod (wrap64 (rd x0 (wrap64 (x1 + x8)))) 128) (wrap64 (7 * x8))), wrap64 ((wrap64 (x1 + x8)) + 1), true)))) else (if (Go.bits .or .i64 x7 (shl .i64 (Int.tmod (wrap64 (rd x0 (wrap64 (x1 + x8)))) 128) (wrap64 (7 * x8)))) > 2147483647 then (some (0, 0, false)) else (some (Go.bits .or .i64 x7 (shl .i64 (Int.tmod (wrap64 (rd x0 (wrap64 (x1 + x8)))) 128) (wrap64 (7 * x8))), wrap64 ((wrap64 (x1 + x8)) + 1), true)))) else (spec_GetNum.l0 k x0 x1 (Go.bits .or .i64 x7 (shl .i64 (Int.tmod (wrap64 (rd x0 (wrap64 (x1 + x8)))) 128) (wrap64 (7 * x8)))) (wrap64 (x8 + 1)))) else (none)) else (none)) else (none))
end
def spec_GetNum.f (k : Nat) (l0 : List Int) (a1 : Int) : Option (Int × Int × Bool) := spec_GetNum.l0 k l0 a1 0 0
theorem spec_GetNum.mono_l : ∀ k, (∀ y0 y1 y2 y3, LeO (spec_GetNum.l0 k y0 y1 y2 y3) (spec_GetNum.l0 (k + 1) y0 y1 y2 y3)) ∧ (∀ y0 y1 y2 y3 y4, LeO (spec_GetNum.j1 k y0 y1 y2 y3 y4) (spec_GetNum.j1 (k + 1) y0 y1 y2 y3 y4))
 | 0 => ⟨fun _ _ _ _ r h => by simp [spec_GetNum.l0] at h, fun _ _ _ _ _ r h => by simp [spec_GetNum.j1] at h⟩
 | k + 1 => by
  obtain ⟨ih0, ih1⟩ := spec_GetNum.mono_l k
  refine ⟨?_, ?_⟩
  ·intro y0 y1 y2 y3
   unfold spec_GetNum.l0
   repeat' first
   | (with_reducible exact ih0 _ _ _ _)
   | (with_reducible exact ih1 _ _ _ _ _)
   | (with_reducible exact LeO.refl _)
   | (with_reducible exact LeO.none _)
   | (with_reducible refine LeO.ite ?_ ?_)
   | (with_reducible refine LeO.bind ?_ (fun _ => ?_))
   | exact ih0 _ _ _ _
   | exact ih1 _ _ _ _ _
   | exact LeO.none _
   | refine LeO.ite ?_ ?_
   | refine LeO.bind ?_ (fun _ => ?_)
  ·intro y0 y1 y2 y3 y4
   unfold spec_GetNum.j1
   repeat' first
   | (with_reducible exact ih0 _ _ _ _)
   | (with_reducible exact ih1 _ _ _ _ _)
   | (with_reducible exact LeO.refl _)
   | (with_reducible exact LeO.none _)
   | (with_reducible refine LeO.ite ?_ ?_)
   | (with_reducible refine LeO.bind ?_ (fun _ => ?_))
   | exact ih0 _ _ _ _
   | exact ih1 _ _ _ _ _
   | exact LeO.none _
   | refine LeO.ite ?_ ?_
   | refine LeO.bind ?_ (fun _ => ?_)
theorem spec_GetNum.mono : ∀ a0 a1 k, LeO (spec_GetNum.f k a0 a1) (spec_GetNum.f (k + 1) a0 a1) := by
 intro a0 a1 k
 obtain ⟨ih0, ih1⟩ := spec_GetNum.mono_l k
 unfold spec_GetNum.f
 repeat' first
   | (with_reducible exact ih0 _ _ _ _)
   | (with_reducible exact ih1 _ _ _ _ _)
   | (with_reducible exact LeO.refl _)
   | (with_reducible exact LeO.none _)
   | (with_reducible refine LeO.ite ?_ ?_)
   | (with_reducible refine LeO.bind ?_ (fun _ => ?_))
   | exact ih0 _ _ _ _
   | exact ih1 _ _ _ _ _
   | exact LeO.none _
   | refine LeO.ite ?_ ?_
   | refine LeO.bind ?_ (fun _ => ?_)
set_option maxHeartbeats 60000000 in
set_option maxRecDepth 100000 in
theorem spec_GetNum.calls (k : Nat) (A0 : Option Addr) (c0 : Nat) (l0 : List Int) (a1 : Int) (r1 : Int) (r2 : Int) (r3 : Bool) (w : World) (hr0 : Kd.C (Kd.int .u8) w A0 l0.length l0) (hc0 : l0.length ≤ c0) (h : spec_GetNum.f k l0 a1 = some (r1, r2, r3)) :
  Calls Try.prog 49 #[.slice A0 l0.length c0, .int .i64 a1] w fun e w' => e = .returned (.tuple #[.int .i64 r1, .int .i64 r2, .bool r3]) ∧ Drawn0 w w' := by
 have HR0 := aM hr0
 have HC0 := aM hc0
 clear hr0 hc0
 have H : (spec_GetNum.l0 k l0 a1 0 0) = some (r1, r2, r3) := h
 clear h
 have H' := aM H
 clear H
 go_enter Try.func49, Try.ntmps49
 go_wp2
 go_loopg [7, 8] k (fun kq v7 v8 w' => ∃ (x7_1 : Int) (x8_1 : Int), v7 = .int .i64 x7_1 ∧ v8 = .int .i64 x8_1 ∧ Aside0 (spec_GetNum.l0 kq l0 a1 x7_1 x8_1 = some (r1, r2, r3)) ∧ Aside0 (kq ≤ k) ∧ Drawn0 w w')
 case atStart => exact ⟨(0), (0), xE, xE, H', ⟨Nat.le_refl _⟩, by repeat (first | exact Drawn0.refl _ | apply Drawn0.step)⟩
 case round =>
  clear H'
  try clear p2
  obtain ⟨x7_1, x8_1, rfl, rfl, HA, HK1, ⟨m1, rfl⟩⟩ := hrel
  cases gk with
  | zero => exact absurd HA.out (by simp [spec_GetNum.l0])
  | succ k1 =>
   have H := HA.out
   clear HA
   simp only [spec_GetNum.l0] at H
   by_cases c3 : x8_1 < 5
   case neg =>
    rw [if_neg c3] at H
    have c3b0 : decide (x8_1 < 5) = false := decide_eq_false c3
    clear c3
    simp only [Option.some.injEq, Prod.mk.injEq] at H
    obtain ⟨rfl, rfl, rfl⟩ := H
    go_wp2
    go_ret3
    exact ⟨by first | rfl | (simp; done) | (simp [*]; done), by repeat (first | exact Drawn0.refl _ | apply Drawn0.step)⟩
   rw [if_pos c3] at H
   have c3b0 : decide (x8_1 < 5) = true := decide_eq_true c3
   clear c3
   have HC4 := aM H
   clear H
   go_upto_region 5 with (fail)
   go_cut [23] (fun v23 wc => ∃ (kq : Nat) (x23_3 : Bool), v23 = .bool x23_3 ∧ Aside0 (spec_GetNum.j1 kq l0 a1 x7_1 x8_1 x23_3 = some (r1, r2, r3)) ∧ Aside0 (kq ≤ k1) ∧ Drawn0 w wc)
   case first =>
    have H := HC4.out
    clear HC4
    by_cases c5 : a1 < 0
    case pos =>
     rw [if_pos c5] at H
     have c5b0 : decide (a1 < 0) = true := decide_eq_true c5
     clear c5
     (first | rw [c5b0] | (simp only [i64_w, i32_w]; rw [c5b0]) | skip)
     have H' := aM H
     clear H
     go_wp2
     go_meet
     case rel => exact ⟨_, (true), xE, H', ⟨by have := HK1.out; first | omega | exact Nat.le_refl _⟩, by repeat (first | exact Drawn0.refl _ | apply Drawn0.step)⟩
    rw [if_neg c5] at H
    have c5b0 : decide (a1 < 0) = false := decide_eq_false c5
    clear c5
    (first | rw [c5b0] | (simp only [i64_w, i32_w]; rw [c5b0]) | skip)
    have H' := aM H
    clear H
    go_wp2
    go_meet
    case rel => exact ⟨_, (decide (a1 ≥ (wrap64 ((l0.length : Int) - x8_1)))), xE, H', ⟨by have := HK1.out; first | omega | exact Nat.le_refl _⟩, by repeat (first | exact Drawn0.refl _ | apply Drawn0.step)⟩
   case rest =>
    clear HC4
    try clear p2
    try clear c3
    try clear c3b0
    try clear c4
    try clear c5
    try clear c5b0
    try clear p2
    obtain ⟨kq, x23_3, rfl, HA, HJ3, ⟨mc3, rfl⟩⟩ := hcut
    cases kq with
    | zero => exact absurd HA.out (by simp [spec_GetNum.j1])
    | succ kj3 =>
     have H := HA.out
     clear HA
     simp only [spec_GetNum.j1] at H
     by_cases c6 : x23_3 = true
     case pos =>
      subst c6
      have H1 : (some (0, 0, false)) = some (r1, r2, r3) := by rw [if_pos rfl] at H; exact H
      clear H
      have H := H1
      clear H1
      simp only [Option.some.injEq, Prod.mk.injEq] at H
      obtain ⟨rfl, rfl, rfl⟩ := H
      go_wp2
      go_ret3
      exact ⟨by first | rfl | (simp; done) | (simp [*]; done), by repeat (first | exact Drawn0.refl _ | apply Drawn0.step)⟩
     replace c6 := Bool.eq_false_iff.mpr c6
     subst c6
     have H1 : (if 0 ≤ (wrap64 (a1 + x8_1)) then (if (wrap64 (a1 + x8_1)) < (l0.length : Int) then (if 0 ≤ (wrap64 (7 * x8_1)) then (if (wrap64 (rd l0 (wrap64 (a1 + x8_1)))) < 128 then (if x8_1 > 0 then (if (wrap64 (rd l0 (wrap64 (a1 + x8_1)))) = 0 then (some (0, 0, false)) else (if (Go.bits .or .i64 x7_1 (shl .i64 (Int.tmod (wrap64 (rd l0 (wrap64 (a1 + x8_1)))) 128) (wrap64 (7 * x8_1)))) > 2147483647 then (some (0, 0, false)) else (some (Go.bits .or .i64 x7_1 (shl .i64 (Int.tmod (wrap64 (rd l0 (wrap64 (a1 + x8_1)))) 128) (wrap64 (7 * x8_1))), wrap64 ((wrap64 (a1 + x8_1)) + 1), true)))) else (if (Go.bits .or .i64 x7_1 (shl .i64 (Int.tmod (wrap64 (rd l0 (wrap64 (a1 + x8_1)))) 128) (wrap64 (7 * x8_1)))) > 2147483647 then (some (0, 0, false)) else (some (Go.bits .or .i64 x7_1 (shl .i64 (Int.tmod (wrap64 (rd l0 (wrap64 (a1 + x8_1)))) 128) (wrap64 (7 * x8_1))), wrap64 ((wrap64 (a1 + x8_1)) + 1), true)))) else (spec_GetNum.l0 kj3 l0 a1 (Go.bits .or .i64 x7_1 (shl .i64 (Int.tmod (wrap64 (rd l0 (wrap64 (a1 + x8_1)))) 128) (wrap64 (7 * x8_1)))) (wrap64 (x8_1 + 1)))) else (none)) else (none)) else (none)) = some (r1, r2, r3) := by rw [if_neg (show ¬ (false = true) by decide)] at H; exact H
     clear H
     have H := H1
     clear H1
     obtain ⟨ji7, hji7⟩ : ∃ j_ : Int, (wrap64 (a1 + x8_1)) = j_ := ⟨_, rfl⟩
     replace H : (if 0 ≤ (ji7) then (if (ji7) < (l0.length : Int) then (if 0 ≤ (wrap64 (7 * x8_1)) then (if (wrap64 (rd l0 (ji7))) < 128 then (if x8_1 > 0 then (if (wrap64 (rd l0 (ji7))) = 0 then (some (0, 0, false)) else (if (Go.bits .or .i64 x7_1 (shl .i64 (Int.tmod (wrap64 (rd l0 (ji7))) 128) (wrap64 (7 * x8_1)))) > 2147483647 then (some (0, 0, false)) else (some (Go.bits .or .i64 x7_1 (shl .i64 (Int.tmod (wrap64 (rd l0 (ji7))) 128) (wrap64 (7 * x8_1))), wrap64 ((ji7) + 1), true)))) else (if (Go.bits .or .i64 x7_1 (shl .i64 (Int.tmod (wrap64 (rd l0 (ji7))) 128) (wrap64 (7 * x8_1)))) > 2147483647 then (some (0, 0, false)) else (some (Go.bits .or .i64 x7_1 (shl .i64 (Int.tmod (wrap64 (rd l0 (ji7))) 128) (wrap64 (7 * x8_1))), wrap64 ((ji7) + 1), true)))) else (spec_GetNum.l0 kj3 l0 a1 (Go.bits .or .i64 x7_1 (shl .i64 (Int.tmod (wrap64 (rd l0 (ji7))) 128) (wrap64 (7 * x8_1)))) (wrap64 (x8_1 + 1)))) else (none)) else (none)) else (none)) = some (r1, r2, r3) := by first | (rw [hji7] at H; exact H) | (simp only [hji7] at H ⊢; exact H)
     have hji7w : (IntKind.i64.wrap (a1 + x8_1)) = ji7 := (i64_w _).trans hji7
     by_cases c8 : 0 ≤ (ji7)
     case neg =>
      rw [if_neg c8] at H
      exact absurd H (by simp)
     rw [if_pos c8] at H
     have c8b0 : decide (0 ≤ (ji7)) = true := decide_eq_true c8
     clear c8
     by_cases c9 : (ji7) < (l0.length : Int)
     case neg =>
      rw [if_neg c9] at H
      exact absurd H (by simp)
     rw [if_pos c9] at H
     have c9b0 : decide ((ji7) < (l0.length : Int)) = true := decide_eq_true c9
     clear c9
     obtain ⟨ji10, hji10⟩ : ∃ j_ : Int, (wrap64 (7 * x8_1)) = j_ := ⟨_, rfl⟩
     replace H : (if 0 ≤ (ji10) then (if (wrap64 (rd l0 (ji7))) < 128 then (if x8_1 > 0 then (if (wrap64 (rd l0 (ji7))) = 0 then (some (0, 0, false)) else (if (Go.bits .or .i64 x7_1 (shl .i64 (Int.tmod (wrap64 (rd l0 (ji7))) 128) (ji10))) > 2147483647 then (some (0, 0, false)) else (some (Go.bits .or .i64 x7_1 (shl .i64 (Int.tmod (wrap64 (rd l0 (ji7))) 128) (ji10)), wrap64 ((ji7) + 1), true)))) else (if (Go.bits .or .i64 x7_1 (shl .i64 (Int.tmod (wrap64 (rd l0 (ji7))) 128) (ji10))) > 2147483647 then (some (0, 0, false)) else (some (Go.bits .or .i64 x7_1 (shl .i64 (Int.tmod (wrap64 (rd l0 (ji7))) 128) (ji10)), wrap64 ((ji7) + 1), true)))) else (spec_GetNum.l0 kj3 l0 a1 (Go.bits .or .i64 x7_1 (shl .i64 (Int.tmod (wrap64 (rd l0 (ji7))) 128) (ji10))) (wrap64 (x8_1 + 1)))) else (none)) = some (r1, r2, r3) := by first | (rw [hji10] at H; exact H) | (simp only [hji10] at H ⊢; exact H)
     have hji10w : (IntKind.i64.wrap (7 * x8_1)) = ji10 := (i64_w _).trans hji10
     by_cases c11 : 0 ≤ (ji10)
     case neg =>
      rw [if_neg c11] at H
      exact absurd H (by simp)
     rw [if_pos c11] at H
     have c11b0 := eq_true c11
     have c11b1 : decide (0 ≤ (ji10)) = true := decide_eq_true c11
     clear c11
     obtain ⟨ji12, hji12⟩ : ∃ j_ : Int, (shl .i64 (Int.tmod (wrap64 (rd l0 (ji7))) 128) (ji10)) = j_ := ⟨_, rfl⟩
     replace H : (if (wrap64 (rd l0 (ji7))) < 128 then (if x8_1 > 0 then (if (wrap64 (rd l0 (ji7))) = 0 then (some (0, 0, false)) else (if (Go.bits .or .i64 x7_1 (ji12)) > 2147483647 then (some (0, 0, false)) else (some (Go.bits .or .i64 x7_1 (ji12), wrap64 ((ji7) + 1), true)))) else (if (Go.bits .or .i64 x7_1 (ji12)) > 2147483647 then (some (0, 0, false)) else (some (Go.bits .or .i64 x7_1 (ji12), wrap64 ((ji7) + 1), true)))) else (spec_GetNum.l0 kj3 l0 a1 (Go.bits .or .i64 x7_1 (ji12)) (wrap64 (x8_1 + 1)))) = some (r1, r2, r3) := by first | (rw [hji12] at H; exact H) | (simp only [hji12] at H ⊢; exact H)
     have hji12_ : (IntKind.i64.wrap ((Int.tmod (wrap64 (rd l0 (ji7))) 128) * 2 ^ min (ji10).toNat 64)) = ji12 := hji12
     have hji12z : (ji10) ≤ 64 → (IntKind.i64.wrap ((Int.tmod (wrap64 (rd l0 (ji7))) 128) * 2 ^ (ji10).toNat)) = ji12 := shl_small hji12
     have hji12y : (wrap64 ((Int.tmod (wrap64 (rd l0 (ji7))) 128) * 2 ^ min (ji10).toNat 64)) = ji12 := (i64_w _).symm.trans hji12_
     have hji12x : (ji10) ≤ 64 → (wrap64 ((Int.tmod (wrap64 (rd l0 (ji7))) 128) * 2 ^ (ji10).toNat)) = ji12 := fun h_ => (i64_w _).symm.trans (hji12z h_)
     by_cases c13 : (wrap64 (rd l0 (ji7))) < 128
     case neg =>
      rw [if_neg c13] at H
      have c13b0 : decide ((wrap64 (rd l0 (ji7))) < 128) = false := decide_eq_false c13
      clear c13
      have H' := aM H
      clear H
      have p347 : 0 ≤ ((ji7) : Int) := of_decide_eq_true (by first | (with_reducible assumption) | assumption)
      have q347 : (ji7) < (l0.length : Int) := of_decide_eq_true (by first | (with_reducible assumption) | assumption)
      obtain ⟨ad347, e347, hx347_0⟩ := Kd.at_int HR0.out (ji7) p347 q347
      cases e347
      replace p347 := eq_true p347
      replace q347 := eq_true q347
      go_wp2
      go_roundg kj3
      case measure => have := HK1.out; have := HJ3.out; omega
      case rel => exact ⟨(Go.bits .or .i64 x7_1 (ji12)), (wrap64 (x8_1 + 1)), (by first | rfl | (simp; done) | (simp only [← hji12] <;> (first | rfl | simp)) | (simp [*]; done)), xE, H', ⟨by have := HK1.out; have := HJ3.out; omega⟩, by repeat (first | exact Drawn0.refl _ | apply Drawn0.step)⟩
     rw [if_pos c13] at H
     have c13b0 : decide ((wrap64 (rd l0 (ji7))) < 128) = true := decide_eq_true c13
     clear c13
     by_cases c14 : x8_1 > 0
     case neg =>
      rw [if_neg c14] at H
      have c14b0 : decide (0 < x8_1) = false := decide_eq_false c14
      clear c14
      by_cases c17 : (Go.bits .or .i64 x7_1 (ji12)) > 2147483647
      case pos =>
       rw [if_pos c17] at H
       have c17b0 : decide (2147483647 < (Go.bits .or .i64 x7_1 (ji12))) = true := decide_eq_true c17
       clear c17
       simp only [Option.some.injEq, Prod.mk.injEq] at H
       obtain ⟨rfl, rfl, rfl⟩ := H
       have p347 : 0 ≤ ((ji7) : Int) := of_decide_eq_true (by first | (with_reducible assumption) | assumption)
       have q347 : (ji7) < (l0.length : Int) := of_decide_eq_true (by first | (with_reducible assumption) | assumption)
       obtain ⟨ad347, e347, hx347_0⟩ := Kd.at_int HR0.out (ji7) p347 q347
       cases e347
       replace p347 := eq_true p347
       replace q347 := eq_true q347
       go_wp2
       go_ret3
       exact ⟨by first | rfl | (simp; done) | (simp only [← hji7, ← hji10, ← hji12] <;> (first | rfl | simp)) | (simp [*]; done), by repeat (first | exact Drawn0.refl _ | apply Drawn0.step)⟩
      rw [if_neg c17] at H
      have c17b0 : decide (2147483647 < (Go.bits .or .i64 x7_1 (ji12))) = false := decide_eq_false c17
      clear c17
      simp only [Option.some.injEq, Prod.mk.injEq] at H
      obtain ⟨rfl, rfl, rfl⟩ := H
      have p347 : 0 ≤ ((ji7) : Int) := of_decide_eq_true (by first | (with_reducible assumption) | assumption)
      have q347 : (ji7) < (l0.length : Int) := of_decide_eq_true (by first | (with_reducible assumption) | assumption)
      obtain ⟨ad347, e347, hx347_0⟩ := Kd.at_int HR0.out (ji7) p347 q347
      cases e347
      replace p347 := eq_true p347
      replace q347 := eq_true q347
      go_wp2
      go_ret3
      exact ⟨by first | rfl | (simp; done) | (simp only [← hji7, ← hji10, ← hji12] <;> (first | rfl | simp)) | (simp [*]; done), by repeat (first | exact Drawn0.refl _ | apply Drawn0.step)⟩
     rw [if_pos c14] at H
     have c14b0 : decide (0 < x8_1) = true := decide_eq_true c14
     clear c14
     by_cases c15 : (wrap64 (rd l0 (ji7))) = 0
     case pos =>
      rw [if_pos c15] at H
      have c15b0 : ((wrap64 (rd l0 (ji7))) == 0) = true := beq_iff_eq.mpr c15
      have c15b1 : ((wrap64 (rd l0 (ji7))) != 0) = false := bne_eq_false_iff_eq.mpr c15
      clear c15
      simp only [Option.some.injEq, Prod.mk.injEq] at H
      obtain ⟨rfl, rfl, rfl⟩ := H
      have p347 : 0 ≤ ((ji7) : Int) := of_decide_eq_true (by first | (with_reducible assumption) | assumption)
      have q347 : (ji7) < (l0.length : Int) := of_decide_eq_true (by first | (with_reducible assumption) | assumption)
      obtain ⟨ad347, e347, hx347_0⟩ := Kd.at_int HR0.out (ji7) p347 q347
      cases e347
      replace p347 := eq_true p347
      replace q347 := eq_true q347
      go_wp2
      go_ret3
      exact ⟨by first | rfl | (simp; done) | (simp only [← hji7, ← hji10, ← hji12] <;> (first | rfl | simp)) | (simp [*]; done), by repeat (first | exact Drawn0.refl _ | apply Drawn0.step)⟩
     rw [if_neg c15] at H
     have c15b0 : ((wrap64 (rd l0 (ji7))) == 0) = false := beq_eq_false_iff_ne.mpr c15
     have c15b1 : ((wrap64 (rd l0 (ji7))) != 0) = true := bne_iff_ne.mpr c15
     by_cases c16 : (Go.bits .or .i64 x7_1 (ji12)) > 2147483647
     case pos =>
      rw [if_pos c16] at H
      have c16b0 : decide (2147483647 < (Go.bits .or .i64 x7_1 (ji12))) = true := decide_eq_true c16
      clear c16
      simp only [Option.some.injEq, Prod.mk.injEq] at H
      obtain ⟨rfl, rfl, rfl⟩ := H
      have p347 : 0 ≤ ((ji7) : Int) := of_decide_eq_true (by first | (with_reducible assumption) | assumption)
      have q347 : (ji7) < (l0.length : Int) := of_decide_eq_true (by first | (with_reducible assumption) | assumption)
      obtain ⟨ad347, e347, hx347_0⟩ := Kd.at_int HR0.out (ji7) p347 q347
      cases e347
      replace p347 := eq_true p347
      replace q347 := eq_true q347
      go_wp2
      go_ret3
      exact ⟨by first | rfl | (simp; done) | (simp only [← hji7, ← hji10, ← hji12] <;> (first | rfl | simp)) | (simp [*]; done), by repeat (first | exact Drawn0.refl _ | apply Drawn0.step)⟩
     rw [if_neg c16] at H
     have c16b0 : decide (2147483647 < (Go.bits .or .i64 x7_1 (ji12))) = false := decide_eq_false c16
     clear c16
     simp only [Option.some.injEq, Prod.mk.injEq] at H
     obtain ⟨rfl, rfl, rfl⟩ := H
     have p347 : 0 ≤ ((ji7) : Int) := of_decide_eq_true (by first | (with_reducible assumption) | assumption)
     have q347 : (ji7) < (l0.length : Int) := of_decide_eq_true (by first | (with_reducible assumption) | assumption)
     obtain ⟨ad347, e347, hx347_0⟩ := Kd.at_int HR0.out (ji7) p347 q347
     cases e347
     replace p347 := eq_true p347
     replace q347 := eq_true q347
     go_wp2
     go_ret3
     exact ⟨by first | rfl | (simp; done) | (simp only [← hji7, ← hji10, ← hji12] <;> (first | rfl | simp)) | (simp [*]; done), by repeat (first | exact Drawn0.refl _ | apply Drawn0.step)⟩

end Go.Proofs.Ytaoipjdmmamkmaa.PFnFrames
