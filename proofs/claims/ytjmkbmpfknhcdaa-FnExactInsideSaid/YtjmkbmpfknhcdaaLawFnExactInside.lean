/- For every input that Go's types allow, the call of laws.FnExactInside returns true and its arguments read afterwards as before. Conditions: none beyond the given row's own. -/
import Derived.Test.YtjmkbmpfknhcdaaRows
import Derived.Test.YtjmkbmpfknhcdaaVFnExactInsideT
import Derived.Test.YtjmkbmpfknhcdaaVFnExactInsidePure
import Derived.Test.YtjmkbmpfknhcdaaVFnExactInsideOpen
import Derived.WalkKit
import Derived.ProofKit
import Derived.OpenShut
import Derived.ShutString
import Derived.ChangeOld
import Derived.Below
import Derived.SizedLaws
namespace Go.Proofs.Ytjmkbmpfknhcdaa.fnExactInside
open Go.ChangeShapes Go.WideShapes Go.ChangeAt Go.RowKit Go.Proofs.Ytjmkbmpfknhcdaa.Open Go.Proofs.Ytjmkbmpfknhcdaa.PFnExactInside Go.Proofs.YtjmkbmpfknhcdaaW.PrintWords
open Go.ChangeMaps (open_string shut_string)
set_option linter.unusedVariables false
theorem own : ownKnob Try.prog.godebug = none := by kernel_rfl
theorem laidOut : laidOutB Try.prog = true := by kernel_rfl
structure S44 where
  f0 : Int
  f1 : List (Int)
def k44 : Kd S44 := Kd.iso (Kd.pair (Kd.int .i64) (Kd.slice 3 (Kd.int .i64))) (fun x : S44 => (x.f0, x.f1))
theorem op44 : Opens Try.prog 44 k44 (fun x => ((Lit.int .i64 x.f0).wf = true) ∧ (x.f1.length ≤ maxLen ∧ ∀ y ∈ x.f1, (Lit.int .i64 y).wf = true)) :=
  opens_imp (opens_iso (fun x : S44 => (x.f0, x.f1)) (fun p => ⟨p.1, p.2⟩) (fun _ => rfl) (opens_struct Try.underlying44 (opens_cons (by kernel_rfl) (opens_int Try.underlying3) (opens_last (by kernel_rfl) (by kernel_rfl) (opens_slice Try.underlying24 (by kernel_rfl) (opens_int Try.underlying3)))))) (fun _ h => h)
structure S45 where
  f0 : Int
  f1 : Int
  f2 : Int
  f3 : List (Int)
def k45 : Kd S45 := Kd.iso (Kd.pair (Kd.int .i64) (Kd.pair (Kd.int .i64) (Kd.pair (Kd.int .i64) (Kd.slice 5 (Kd.int .u8))))) (fun x : S45 => (x.f0, x.f1, x.f2, x.f3))
theorem op45 : Opens Try.prog 45 k45 (fun x => ((Lit.int .i64 x.f0).wf = true) ∧ ((Lit.int .i64 x.f1).wf = true) ∧ ((Lit.int .i64 x.f2).wf = true) ∧ (x.f3.length ≤ maxLen ∧ ∀ y ∈ x.f3, (Lit.int .u8 y).wf = true)) :=
  opens_imp (opens_iso (fun x : S45 => (x.f0, x.f1, x.f2, x.f3)) (fun p => ⟨p.1, p.2.1, p.2.2.1, p.2.2.2⟩) (fun _ => rfl) (opens_struct Try.underlying45 (opens_cons (by kernel_rfl) (opens_int Try.underlying3) (opens_cons (by kernel_rfl) (opens_int Try.underlying3) (opens_cons (by kernel_rfl) (opens_int Try.underlying3) (opens_last (by kernel_rfl) (by kernel_rfl) (opens_slice Try.underlying22 (by kernel_rfl) (opens_int Try.underlying5)))))))) (fun _ h => h)
set_option maxRecDepth 100000 in
theorem lifted (os : Os) (started : os.Started) (H : Type) (enc : TypeId × Value → H) :
    ReturnsInHanded {} Try.checked os 7 .any (Rows.fnExactInsideSpec.pre6 enc Try.prog Try.f7 Rows.fnExactInsideRow.domain false) (Rows.fnExactInsideSpec.post enc Try.prog Try.f7 false true false false) := by
  refine returnsInHanded_of_change_sized (C := Try.checked) own started (by kernel_rfl) Try.func7
    (ChangeSpec.witness6 (enc := enc) (C := Try.checked) false ⟨#[], #[.agg #[.int .i64 0, .slice none 0 0], .agg #[.int .i64 0, .int .i64 0, .int .i64 0, .slice none 0 0]], []⟩ 8 (by kernel_rfl) (by kernel_rfl) (by kernel_rfl) (by kernel_rfl)) ?_
  intro W base args ds gs before hval0 hW hcnd hsz0 _
  have hval : ∀ (j : Nat) t v, Try.f7.params[j]? = some t → args[j]? = some v → Value.okWide Try.prog W .any base t v := hval0
  have hW' := hW
  obtain ⟨p, q, hA0, hV, rfl, hfz, hnd⟩ := hW
  have hA : DataW.TrodAll enc Try.prog W 0 (fun _ => true) true Try.f7.params.toList args.toList ds p := hA0
  rw [Try.params7] at hA hval
  obtain ⟨v0, vs0, d0, ds0, p0, q0, hargs, rfl, rfl, h0, r0⟩ := trodAll_cons hA
  obtain ⟨v1, vs1, d1, ds1, p1, q1, hargs1, rfl, rfl, h1, r1⟩ := trodAll_cons r0
  subst hargs1
  obtain ⟨rfl, rfl, rfl⟩ := trodAll_nil r1
  obtain rfl : args = #[v0, v1] := by cases args; simp_all
  obtain ⟨rfl, rfl⟩ := trodVars_none hV
  have k0_ := h0
  have lt0 : ∀ x ∈ p0, x.block < W.heap.size := by obtain ⟨m, hm⟩ := k0_; exact DataW.trod_lt m _ _ _ hm
  obtain ⟨cs0, rfl, _⟩ := okWide_struct Try.underlying44 (hval 0 44 v0 rfl rfl)
  obtain ⟨x0, hk0, hq0⟩ := opens_arg op44 h0
  obtain ⟨_, _, hx0, rfl, ⟨A0_1, c0_1, rfl, hc0_1, hr0_1⟩⟩ := hk0
  obtain rfl : cs0 = #[.int .i64 x0.f0, .slice A0_1 x0.f1.length c0_1] := by
    have e : cs0.toList = _ := hx0
    cases cs0
    simpa using e
  have k1_ := h1
  have lt1 : ∀ x ∈ p1, x.block < W.heap.size := by obtain ⟨m, hm⟩ := k1_; exact DataW.trod_lt m _ _ _ hm
  obtain ⟨cs1, rfl, _⟩ := okWide_struct Try.underlying45 (hval 1 45 v1 rfl rfl)
  obtain ⟨x1, hk1, hq1⟩ := opens_arg op45 h1
  obtain ⟨_, _, hx1, rfl, ⟨_, _, rfl, rfl, ⟨_, _, rfl, rfl, ⟨A1_3, c1_3, rfl, hc1_3, hr1_3⟩⟩⟩⟩ := hk1
  obtain rfl : cs1 = #[.int .i64 x1.f0, .int .i64 x1.f1, .int .i64 x1.f2, .slice A1_3 x1.f3.length c1_3] := by
    have e : cs1.toList = _ := hx1
    cases cs1
    simpa using e
  clear hA0 hval0 hsz0
  obtain ⟨k, hk⟩ := Pure.FnExactInside x0.f0 x0.f1 x1.f0 x1.f1 x1.f2 x1.f3 hq0.1 hq0.2 hq1.1 hq1.2.1 hq1.2.2.1 hq1.2.2.2
  refine (laws_FnExactInside.calls _ _ _ _ _ _ _ _ _ _ _ W (hr0_1) (hc0_1) (hr1_3) (hc1_3) hk).mono fun e W' ⟨he, bel⟩ => ?_
  subst he
  exact ⟨_, rfl, _, _, _, [], _, [], hW', trodAll_mk1 (shut_bool Try.underlying4 _), (trodAll_cons_mk (Below.trod laidOut (by kernel_rfl) (of_decide_eq_true (by kernel_rfl)) k0_ bel lt0) (trodAll_cons_mk (Below.trod laidOut (by kernel_rfl) (of_decide_eq_true (by kernel_rfl)) k1_ bel lt1) trodAll_mk0)), rfl, bel.frame _, fun h => by cases h⟩
theorem over : Rows.fnExactInsideRow.holds Try.pinned (OpenSpec.ofChange Rows.fnExactInsideSpec) :=
  OpenClaim.holds_of_wide 7 Try.f7 rfl rfl rfl rfl rfl rfl rfl ⟨rfl, rfl, rfl, rfl, rfl⟩ rfl rfl rfl rfl rfl (by kernel_rfl) Try.func7 (by kernel_rfl)
    (of_decide_eq_true (by kernel_rfl)) (by unfold Func.isWrapper; first | (rw [if_pos (by decide +kernel)]; kernel_rfl) | (rw [if_neg (by decide +kernel)]; exact ⟨rfl, rfl⟩))
    (fun os started H enc _ => lifted os started H enc)
theorem proved : Rows.FnExactInsideSaid := over
#print axioms proved
end Go.Proofs.Ytjmkbmpfknhcdaa.fnExactInside
namespace Go.Proofs.Ytjmkbmpfknhcdaa
/-- The row, under a short name, for the claim. -/
theorem fnExactInside_holds : Rows.FnExactInsideSaid := fnExactInside.proved
end Go.Proofs.Ytjmkbmpfknhcdaa
