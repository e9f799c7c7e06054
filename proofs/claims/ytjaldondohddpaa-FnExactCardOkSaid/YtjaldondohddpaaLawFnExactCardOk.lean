/- For every input that Go's types allow, the call of laws.FnExactCardOk returns true and its arguments read afterwards as before. Conditions: none beyond the given row's own. -/
import Derived.Test.YtjaldondohddpaaRows
import Derived.Test.YtjaldondohddpaaVFnExactCardOkPx8
import Derived.Test.YtjaldondohddpaaVFnExactCardOkPure
import Derived.Test.YtjaldondohddpaaVFnExactCardOkOpen
import Derived.WalkKit
import Derived.ProofKit
import Derived.OpenShut
import Derived.ShutString
import Derived.ChangeOld
import Derived.Below
import Derived.SizedLaws
namespace Go.Proofs.Ytjaldondohddpaa.fnExactCardOk
open Go.ChangeShapes Go.WideShapes Go.ChangeAt Go.RowKit Go.Proofs.Ytjaldondohddpaa.Open Go.Proofs.Ytjaldondohddpaa.PFnExactCardOk Go.Proofs.YtjaldondohddpaaW.PrintWords
open Go.ChangeMaps (open_string shut_string)
set_option linter.unusedVariables false
theorem own : ownKnob Try.prog.godebug = none := by kernel_rfl
theorem laidOut : laidOutB Try.prog = true := by kernel_rfl
theorem op166 : Opens Try.prog 166 k166 (fun x => ((Lit.int .i64 x.f0).wf = true) ∧ (x.f1.length ≤ maxLen ∧ ∀ y ∈ x.f1, (Lit.int .i64 y).wf = true)) :=
  opens_imp (opens_iso (fun x : S166 => (x.f0, x.f1)) (fun p => ⟨p.1, p.2⟩) (fun _ => rfl) (opens_struct Try.underlying166 (opens_cons (by kernel_rfl) (opens_int Try.underlying3) (opens_last (by kernel_rfl) (by kernel_rfl) (opens_slice Try.underlying115 (by kernel_rfl) (opens_int Try.underlying3)))))) (fun _ h => h)
theorem op170 : Opens Try.prog 170 k170 (fun x => ((Lit.int .i64 x.f0).wf = true) ∧ ((Lit.int .i64 x.f1).wf = true) ∧ ((Lit.int .i64 x.f2).wf = true) ∧ ((Lit.int .i64 x.f3).wf = true)) :=
  opens_imp (opens_iso (fun x : S170 => (x.f0, x.f1, x.f2, x.f3)) (fun p => ⟨p.1, p.2.1, p.2.2.1, p.2.2.2⟩) (fun _ => rfl) (opens_struct Try.underlying170 (opens_cons (by kernel_rfl) (opens_int Try.underlying3) (opens_cons (by kernel_rfl) (opens_int Try.underlying3) (opens_cons (by kernel_rfl) (opens_int Try.underlying3) (opens_last (by kernel_rfl) (by kernel_rfl) (opens_int Try.underlying3))))))) (fun _ h => h)
structure S68 where
  f0 : List (Bool)
  f1 : List (S166)
  f2 : List (S170)
def k68 : Kd S68 := Kd.iso (Kd.pair (Kd.slice 4 Kd.bool) (Kd.pair (Kd.slice 166 k166) (Kd.slice 170 k170))) (fun x : S68 => (x.f0, x.f1, x.f2))
theorem op68 : Opens Try.prog 68 k68 (fun x => (x.f0.length ≤ maxLen ∧ ∀ y ∈ x.f0, True) ∧ (x.f1.length ≤ maxLen ∧ ∀ y ∈ x.f1, ((Lit.int .i64 y.f0).wf = true) ∧ (y.f1.length ≤ maxLen ∧ ∀ x ∈ y.f1, (Lit.int .i64 x).wf = true)) ∧ (x.f2.length ≤ maxLen ∧ ∀ y ∈ x.f2, ((Lit.int .i64 y.f0).wf = true) ∧ ((Lit.int .i64 y.f1).wf = true) ∧ ((Lit.int .i64 y.f2).wf = true) ∧ ((Lit.int .i64 y.f3).wf = true))) :=
  opens_imp (opens_iso (fun x : S68 => (x.f0, x.f1, x.f2)) (fun p => ⟨p.1, p.2.1, p.2.2⟩) (fun _ => rfl) (opens_struct Try.underlying68 (opens_cons (by kernel_rfl) (opens_slice Try.underlying64 (by kernel_rfl) (opens_bool Try.underlying4)) (opens_cons (by kernel_rfl) (opens_slice Try.underlying65 (by kernel_rfl) op166) (opens_last (by kernel_rfl) (by kernel_rfl) (opens_slice Try.underlying66 (by kernel_rfl) op170)))))) (fun _ h => h)
set_option maxRecDepth 100000 in
theorem lifted (os : Os) (started : os.Started) (H : Type) (enc : TypeId × Value → H) :
    ReturnsInHanded {} Try.checked os 6 .any (Rows.fnExactCardOkSpec.pre6 enc Try.prog Try.f6 Rows.fnExactCardOkRow.domain false) (Rows.fnExactCardOkSpec.post enc Try.prog Try.f6 false true false false) := by
  refine returnsInHanded_of_change_sized (C := Try.checked) own started (by kernel_rfl) Try.func6
    (ChangeSpec.witness6 (enc := enc) (C := Try.checked) false ⟨#[], #[.agg #[.slice none 0 0, .slice none 0 0, .slice none 0 0]], []⟩ 8 (by kernel_rfl) (by kernel_rfl) (by kernel_rfl) (by kernel_rfl)) ?_
  intro W base args ds gs before hval0 hW hcnd hsz0 _
  have hval : ∀ (j : Nat) t v, Try.f6.params[j]? = some t → args[j]? = some v → Value.okWide Try.prog W .any base t v := hval0
  have hW' := hW
  obtain ⟨p, q, hA0, hV, rfl, hfz, hnd⟩ := hW
  have hA : DataW.TrodAll enc Try.prog W 0 (fun _ => true) true Try.f6.params.toList args.toList ds p := hA0
  rw [Try.params6] at hA hval
  obtain ⟨v0, vs0, d0, ds0, p0, q0, hargs, rfl, rfl, h0, r0⟩ := trodAll_cons hA
  obtain ⟨rfl, rfl, rfl⟩ := trodAll_nil r0
  obtain rfl : args = #[v0] := by cases args; simp_all
  obtain ⟨rfl, rfl⟩ := trodVars_none hV
  have k0_ := h0
  have lt0 : ∀ x ∈ p0, x.block < W.heap.size := by obtain ⟨m, hm⟩ := k0_; exact DataW.trod_lt m _ _ _ hm
  obtain ⟨cs0, rfl, _⟩ := okWide_struct Try.underlying68 (hval 0 68 v0 rfl rfl)
  obtain ⟨x0, hk0, hq0⟩ := opens_arg op68 h0
  obtain ⟨_, _, hx0, ⟨A0_0, c0_0, rfl, hc0_0, hr0_0⟩, ⟨_, _, rfl, ⟨A0_1, c0_1, rfl, hc0_1, hr0_1⟩, ⟨A0_2, c0_2, rfl, hc0_2, hr0_2⟩⟩⟩ := hk0
  obtain rfl : cs0 = #[.slice A0_0 x0.f0.length c0_0, .slice A0_1 x0.f1.length c0_1, .slice A0_2 x0.f2.length c0_2] := by
    have e : cs0.toList = _ := hx0
    cases cs0
    simpa using e
  clear hA0 hval0 hsz0
  obtain ⟨k, hk⟩ := Pure.FnExactCardOk x0.f0 x0.f1 x0.f2 hq0.1 hq0.2.1 hq0.2.2
  refine (laws_FnExactCardOk.calls _ _ _ _ _ _ _ _ _ _ true W (hr0_0) (hc0_0) (hr0_1) (hc0_1) (hr0_2) (hc0_2) hk).mono fun e W' ⟨he, bel⟩ => ?_
  subst he
  exact ⟨_, rfl, _, _, _, [], _, [], hW', trodAll_mk1 (shut_bool Try.underlying4 _), (trodAll_cons_mk (Below.trod laidOut (by kernel_rfl) (of_decide_eq_true (by kernel_rfl)) k0_ bel lt0) trodAll_mk0), rfl, bel.frame _, fun h => by cases h⟩
theorem over : Rows.fnExactCardOkRow.holds Try.pinned (OpenSpec.ofChange Rows.fnExactCardOkSpec) :=
  OpenClaim.holds_of_wide 6 Try.f6 rfl rfl rfl rfl rfl rfl rfl ⟨rfl, rfl, rfl, rfl, rfl⟩ rfl rfl rfl rfl rfl (by kernel_rfl) Try.func6 (by kernel_rfl)
    (of_decide_eq_true (by kernel_rfl)) (by unfold Func.isWrapper; first | (rw [if_pos (by decide +kernel)]; kernel_rfl) | (rw [if_neg (by decide +kernel)]; exact ⟨rfl, rfl⟩))
    (fun os started H enc _ => lifted os started H enc)
theorem proved : Rows.FnExactCardOkSaid := over
#print axioms proved
end Go.Proofs.Ytjaldondohddpaa.fnExactCardOk
namespace Go.Proofs.Ytjaldondohddpaa
/-- The row, under a short name, for the claim. -/
theorem fnExactCardOk_holds : Rows.FnExactCardOkSaid := fnExactCardOk.proved
end Go.Proofs.Ytjaldondohddpaa
