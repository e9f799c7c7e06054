/- For every input that Go's types allow, the call of laws.FnExactPass returns true and its arguments read afterwards as before. Conditions: none beyond the given row's own. -/
import Derived.Test.YtfljolhhgheheaaRows
import Derived.Test.YtfljolhhgheheaaVFnExactPassPure
import Derived.Test.YtfljolhhgheheaaVFnExactPassOpen
import Derived.WalkKit
import Derived.ProofKit
import Derived.OpenShut
import Derived.ShutString
import Derived.ChangeOld
import Derived.Below
import Derived.SizedLaws
namespace Go.Proofs.Ytfljolhhgheheaa.fnExactPass
open Go.ChangeShapes Go.WideShapes Go.ChangeAt Go.RowKit Go.Proofs.Ytfljolhhgheheaa.Open Go.Proofs.Ytfljolhhgheheaa.PFnExactPass Go.Proofs.YtfljolhhgheheaaW.PrintWords
open Go.ChangeMaps (open_string shut_string)
set_option linter.unusedVariables false
theorem own : ownKnob Try.prog.godebug = none := by kernel_rfl
theorem laidOut : laidOutB Try.prog = true := by kernel_rfl
theorem op79 : Opens Try.prog 79 k79 (fun x => ((Lit.int .i64 x.f0).wf = true) ∧ (x.f1.length ≤ maxLen ∧ ∀ y ∈ x.f1, (Lit.int .i64 y).wf = true)) :=
  opens_imp (opens_iso (fun x : S79 => (x.f0, x.f1)) (fun p => ⟨p.1, p.2⟩) (fun _ => rfl) (opens_struct Try.underlying79 (opens_cons (by kernel_rfl) (opens_int Try.underlying3) (opens_last (by kernel_rfl) (by kernel_rfl) (opens_slice Try.underlying58 (by kernel_rfl) (opens_int Try.underlying3)))))) (fun _ h => h)
theorem op90 : Opens Try.prog 90 k90 (fun x => ((Lit.int .i64 x.f0).wf = true) ∧ ((Lit.int .i64 x.f1).wf = true) ∧ ((Lit.int .i64 x.f2).wf = true) ∧ ((Lit.int .i64 x.f3).wf = true)) :=
  opens_imp (opens_iso (fun x : S90 => (x.f0, x.f1, x.f2, x.f3)) (fun p => ⟨p.1, p.2.1, p.2.2.1, p.2.2.2⟩) (fun _ => rfl) (opens_struct Try.underlying90 (opens_cons (by kernel_rfl) (opens_int Try.underlying3) (opens_cons (by kernel_rfl) (opens_int Try.underlying3) (opens_cons (by kernel_rfl) (opens_int Try.underlying3) (opens_last (by kernel_rfl) (by kernel_rfl) (opens_int Try.underlying3))))))) (fun _ h => h)
structure S26 where
  f0 : List (Bool)
  f1 : List (S79)
  f2 : List (S90)
def k26 : Kd S26 := Kd.iso (Kd.pair (Kd.slice 4 Kd.bool) (Kd.pair (Kd.slice 79 k79) (Kd.slice 90 k90))) (fun x : S26 => (x.f0, x.f1, x.f2))
theorem op26 : Opens Try.prog 26 k26 (fun x => (x.f0.length ≤ maxLen ∧ ∀ y ∈ x.f0, True) ∧ (x.f1.length ≤ maxLen ∧ ∀ y ∈ x.f1, ((Lit.int .i64 y.f0).wf = true) ∧ (y.f1.length ≤ maxLen ∧ ∀ x ∈ y.f1, (Lit.int .i64 x).wf = true)) ∧ (x.f2.length ≤ maxLen ∧ ∀ y ∈ x.f2, ((Lit.int .i64 y.f0).wf = true) ∧ ((Lit.int .i64 y.f1).wf = true) ∧ ((Lit.int .i64 y.f2).wf = true) ∧ ((Lit.int .i64 y.f3).wf = true))) :=
  opens_imp (opens_iso (fun x : S26 => (x.f0, x.f1, x.f2)) (fun p => ⟨p.1, p.2.1, p.2.2⟩) (fun _ => rfl) (opens_struct Try.underlying26 (opens_cons (by kernel_rfl) (opens_slice Try.underlying22 (by kernel_rfl) (opens_bool Try.underlying4)) (opens_cons (by kernel_rfl) (opens_slice Try.underlying23 (by kernel_rfl) op79) (opens_last (by kernel_rfl) (by kernel_rfl) (opens_slice Try.underlying24 (by kernel_rfl) op90)))))) (fun _ h => h)
structure S29 where
  f0 : Int
  f1 : Int
  f2 : Int
  f3 : List (Int)
def k29 : Kd S29 := Kd.iso (Kd.pair (Kd.int .i64) (Kd.pair (Kd.int .i64) (Kd.pair (Kd.int .i64) (Kd.slice 5 (Kd.int .u8))))) (fun x : S29 => (x.f0, x.f1, x.f2, x.f3))
theorem op29 : Opens Try.prog 29 k29 (fun x => ((Lit.int .i64 x.f0).wf = true) ∧ ((Lit.int .i64 x.f1).wf = true) ∧ ((Lit.int .i64 x.f2).wf = true) ∧ (x.f3.length ≤ maxLen ∧ ∀ y ∈ x.f3, (Lit.int .u8 y).wf = true)) :=
  opens_imp (opens_iso (fun x : S29 => (x.f0, x.f1, x.f2, x.f3)) (fun p => ⟨p.1, p.2.1, p.2.2.1, p.2.2.2⟩) (fun _ => rfl) (opens_struct Try.underlying29 (opens_cons (by kernel_rfl) (opens_int Try.underlying3) (opens_cons (by kernel_rfl) (opens_int Try.underlying3) (opens_cons (by kernel_rfl) (opens_int Try.underlying3) (opens_last (by kernel_rfl) (by kernel_rfl) (opens_slice Try.underlying27 (by kernel_rfl) (opens_int Try.underlying5)))))))) (fun _ h => h)
set_option maxRecDepth 100000 in
theorem lifted (os : Os) (started : os.Started) (H : Type) (enc : TypeId × Value → H) :
    ReturnsInHanded {} Try.checked os 3 .any (Rows.fnExactPassSpec.pre6 enc Try.prog Try.f3 Rows.fnExactPassRow.domain false) (Rows.fnExactPassSpec.post enc Try.prog Try.f3 false true false false) := by
  refine returnsInHanded_of_change_sized (C := Try.checked) own started (by kernel_rfl) Try.func3
    (ChangeSpec.witness6 (enc := enc) (C := Try.checked) false ⟨#[], #[.agg #[.slice none 0 0, .slice none 0 0, .slice none 0 0], .int .i64 0, .agg #[.int .i64 0, .int .i64 0, .int .i64 0, .slice none 0 0]], []⟩ 8 (by kernel_rfl) (by kernel_rfl) (by kernel_rfl) (by kernel_rfl)) ?_
  intro W base args ds gs before hval0 hW hcnd hsz0 _
  have hval : ∀ (j : Nat) t v, Try.f3.params[j]? = some t → args[j]? = some v → Value.okWide Try.prog W .any base t v := hval0
  have hW' := hW
  obtain ⟨p, q, hA0, hV, rfl, hfz, hnd⟩ := hW
  have hA : DataW.TrodAll enc Try.prog W 0 (fun _ => true) true Try.f3.params.toList args.toList ds p := hA0
  rw [Try.params3] at hA hval
  obtain ⟨v0, vs0, d0, ds0, p0, q0, hargs, rfl, rfl, h0, r0⟩ := trodAll_cons hA
  obtain ⟨v1, vs1, d1, ds1, p1, q1, hargs1, rfl, rfl, h1, r1⟩ := trodAll_cons r0
  subst hargs1
  obtain ⟨v2, vs2, d2, ds2, p2, q2, hargs2, rfl, rfl, h2, r2⟩ := trodAll_cons r1
  subst hargs2
  obtain ⟨rfl, rfl, rfl⟩ := trodAll_nil r2
  obtain rfl : args = #[v0, v1, v2] := by cases args; simp_all
  obtain ⟨rfl, rfl⟩ := trodVars_none hV
  have k0_ := h0
  have lt0 : ∀ x ∈ p0, x.block < W.heap.size := by obtain ⟨m, hm⟩ := k0_; exact DataW.trod_lt m _ _ _ hm
  obtain ⟨cs0, rfl, _⟩ := okWide_struct Try.underlying26 (hval 0 26 v0 rfl rfl)
  obtain ⟨x0, hk0, hq0⟩ := opens_arg op26 h0
  obtain ⟨_, _, hx0, ⟨A0_0, c0_0, rfl, hc0_0, hr0_0⟩, ⟨_, _, rfl, ⟨A0_1, c0_1, rfl, hc0_1, hr0_1⟩, ⟨A0_2, c0_2, rfl, hc0_2, hr0_2⟩⟩⟩ := hk0
  obtain rfl : cs0 = #[.slice A0_0 x0.f0.length c0_0, .slice A0_1 x0.f1.length c0_1, .slice A0_2 x0.f2.length c0_2] := by
    have e : cs0.toList = _ := hx0
    cases cs0
    simpa using e
  have k1_ := h1
  have lt1 : ∀ x ∈ p1, x.block < W.heap.size := by obtain ⟨m, hm⟩ := k1_; exact DataW.trod_lt m _ _ _ hm
  obtain ⟨z1, rfl⟩ := okWide_int Try.underlying3 (hval 1 3 v1 rfl rfl)
  obtain ⟨a1, hx1, hq1⟩ := opens_arg (opens_int Try.underlying3) h1
  obtain rfl : a1 = z1 := by
    have e : [Value.int .i64 z1] = [Value.int .i64 a1] := hx1
    simp at e
    exact e.symm
  have k2_ := h2
  have lt2 : ∀ x ∈ p2, x.block < W.heap.size := by obtain ⟨m, hm⟩ := k2_; exact DataW.trod_lt m _ _ _ hm
  obtain ⟨cs2, rfl, _⟩ := okWide_struct Try.underlying29 (hval 2 29 v2 rfl rfl)
  obtain ⟨x2, hk2, hq2⟩ := opens_arg op29 h2
  obtain ⟨_, _, hx2, rfl, ⟨_, _, rfl, rfl, ⟨_, _, rfl, rfl, ⟨A2_3, c2_3, rfl, hc2_3, hr2_3⟩⟩⟩⟩ := hk2
  obtain rfl : cs2 = #[.int .i64 x2.f0, .int .i64 x2.f1, .int .i64 x2.f2, .slice A2_3 x2.f3.length c2_3] := by
    have e : cs2.toList = _ := hx2
    cases cs2
    simpa using e
  clear hA0 hval0 hsz0
  obtain ⟨k, hk⟩ := Pure.FnExactPass x0.f0 x0.f1 x0.f2 a1 x2.f0 x2.f1 x2.f2 x2.f3 hq0.1 hq0.2.1 hq0.2.2 hq1 hq2.1 hq2.2.1 hq2.2.2.1 hq2.2.2.2
  refine (Y49.calls _ _ _ _ _ _ _ _ _ _ _ _ _ _ _ _ _ W (hr0_0) (hc0_0) (hr0_1) (hc0_1) (hr0_2) (hc0_2) (hr2_3) (hc2_3) hk).mono fun e W' ⟨he, bel⟩ => ?_
  subst he
  exact ⟨_, rfl, _, _, _, [], _, [], hW', trodAll_mk1 (shut_bool Try.underlying4 _), (trodAll_cons_mk (Below.trod laidOut (by kernel_rfl) (of_decide_eq_true (by kernel_rfl)) k0_ bel lt0) (trodAll_cons_mk (Below.trod laidOut (by kernel_rfl) (of_decide_eq_true (by kernel_rfl)) k1_ bel lt1) (trodAll_cons_mk (Below.trod laidOut (by kernel_rfl) (of_decide_eq_true (by kernel_rfl)) k2_ bel lt2) trodAll_mk0))), rfl, bel.frame _, fun h => by cases h⟩
theorem over : Rows.fnExactPassRow.holds Try.pinned (OpenSpec.ofChange Rows.fnExactPassSpec) :=
  OpenClaim.holds_of_wide 3 Try.f3 rfl rfl rfl rfl rfl rfl rfl ⟨rfl, rfl, rfl, rfl, rfl⟩ rfl rfl rfl rfl rfl (by kernel_rfl) Try.func3 (by kernel_rfl)
    (of_decide_eq_true (by kernel_rfl)) (by unfold Func.isWrapper; first | (rw [if_pos (by decide +kernel)]; kernel_rfl) | (rw [if_neg (by decide +kernel)]; exact ⟨rfl, rfl⟩))
    (fun os started H enc _ => lifted os started H enc)
theorem proved : Rows.FnExactPassSaid := over
#print axioms proved
end Go.Proofs.Ytfljolhhgheheaa.fnExactPass
namespace Go.Proofs.Ytfljolhhgheheaa
/-- The row, under a short name, for the claim. -/
theorem fnExactPass_holds : Rows.FnExactPassSaid := fnExactPass.proved
end Go.Proofs.Ytfljolhhgheheaa
