/- For every input that Go's types allow, the call of laws.FnExactReact returns true and its arguments read afterwards as before. Conditions: none beyond the given row's own. -/
import Derived.Test.YthmijfekdeagpaaRows
import Derived.Test.YthmijfekdeagpaaVFnExactReactPure
import Derived.Test.YthmijfekdeagpaaVFnExactReactOpen
import Derived.WalkKit
import Derived.ProofKit
import Derived.OpenShut
import Derived.ShutString
import Derived.ChangeOld
import Derived.Below
import Derived.SizedLaws
namespace Go.Proofs.Ythmijfekdeagpaa.fnExactReact
open Go.ChangeShapes Go.WideShapes Go.ChangeAt Go.RowKit Go.Proofs.Ythmijfekdeagpaa.Open Go.Proofs.Ythmijfekdeagpaa.PFnExactReact Go.Proofs.YthmijfekdeagpaaW.PrintWords
open Go.ChangeMaps (open_string shut_string)
set_option linter.unusedVariables false
theorem own : ownKnob Try.prog.godebug = none := by kernel_rfl
theorem laidOut : laidOutB Try.prog = true := by kernel_rfl
theorem op90 : Opens Try.prog 90 k90 (fun x => ((Lit.int .i64 x.f0).wf = true) ∧ ((Lit.int .i64 x.f1).wf = true) ∧ ((Lit.int .i64 x.f2).wf = true) ∧ ((Lit.int .i64 x.f3).wf = true)) :=
  opens_imp (opens_iso (fun x : S90 => (x.f0, x.f1, x.f2, x.f3)) (fun p => ⟨p.1, p.2.1, p.2.2.1, p.2.2.2⟩) (fun _ => rfl) (opens_struct Try.underlying90 (opens_cons (by kernel_rfl) (opens_int Try.underlying3) (opens_cons (by kernel_rfl) (opens_int Try.underlying3) (opens_cons (by kernel_rfl) (opens_int Try.underlying3) (opens_last (by kernel_rfl) (by kernel_rfl) (opens_int Try.underlying3))))))) (fun _ h => h)
theorem op160 : Opens Try.prog 160 k160 (fun x => (True) ∧ (True) ∧ (((Lit.int .i64 x.f2.f0).wf = true) ∧ ((Lit.int .i64 x.f2.f1).wf = true) ∧ ((Lit.int .i64 x.f2.f2).wf = true) ∧ ((Lit.int .i64 x.f2.f3).wf = true)) ∧ ((Lit.int .i64 x.f3).wf = true) ∧ ((Lit.int .i64 x.f4).wf = true) ∧ ((Lit.int .i64 x.f5).wf = true) ∧ ((Lit.int .i64 x.f6).wf = true) ∧ (True)) :=
  opens_imp (opens_iso (fun x : S160 => (x.f0, x.f1, x.f2, x.f3, x.f4, x.f5, x.f6, x.f7)) (fun p => ⟨p.1, p.2.1, p.2.2.1, p.2.2.2.1, p.2.2.2.2.1, p.2.2.2.2.2.1, p.2.2.2.2.2.2.1, p.2.2.2.2.2.2.2⟩) (fun _ => rfl) (opens_struct Try.underlying160 (opens_cons (by kernel_rfl) (opens_bool Try.underlying4) (opens_cons (by kernel_rfl) (opens_bool Try.underlying4) (opens_cons (by kernel_rfl) op90 (opens_cons (by kernel_rfl) (opens_int Try.underlying3) (opens_cons (by kernel_rfl) (opens_int Try.underlying3) (opens_cons (by kernel_rfl) (opens_int Try.underlying3) (opens_cons (by kernel_rfl) (opens_int Try.underlying3) (opens_last (by kernel_rfl) (by kernel_rfl) (opens_bool Try.underlying4))))))))))) (fun _ h => h)
structure S24 where
  f0 : Int
  f1 : List (S160)
def k24 : Kd S24 := Kd.iso (Kd.pair (Kd.int .i64) (Kd.slice 160 k160)) (fun x : S24 => (x.f0, x.f1))
theorem op24 : Opens Try.prog 24 k24 (fun x => ((Lit.int .i64 x.f0).wf = true) ∧ (x.f1.length ≤ maxLen ∧ ∀ y ∈ x.f1, (True) ∧ (True) ∧ (((Lit.int .i64 y.f2.f0).wf = true) ∧ ((Lit.int .i64 y.f2.f1).wf = true) ∧ ((Lit.int .i64 y.f2.f2).wf = true) ∧ ((Lit.int .i64 y.f2.f3).wf = true)) ∧ ((Lit.int .i64 y.f3).wf = true) ∧ ((Lit.int .i64 y.f4).wf = true) ∧ ((Lit.int .i64 y.f5).wf = true) ∧ ((Lit.int .i64 y.f6).wf = true) ∧ (True))) :=
  opens_imp (opens_iso (fun x : S24 => (x.f0, x.f1)) (fun p => ⟨p.1, p.2⟩) (fun _ => rfl) (opens_struct Try.underlying24 (opens_cons (by kernel_rfl) (opens_int Try.underlying3) (opens_last (by kernel_rfl) (by kernel_rfl) (opens_slice Try.underlying22 (by kernel_rfl) op160))))) (fun _ h => h)
structure S92 where
  f0 : Int
  f1 : Int
  f2 : S90
  f3 : Int
  f4 : Bool
def k92 : Kd S92 := Kd.iso (Kd.pair (Kd.int .i64) (Kd.pair (Kd.int .i64) (Kd.pair k90 (Kd.pair (Kd.int .i64) Kd.bool)))) (fun x : S92 => (x.f0, x.f1, x.f2, x.f3, x.f4))
theorem op92 : Opens Try.prog 92 k92 (fun x => ((Lit.int .i64 x.f0).wf = true) ∧ ((Lit.int .i64 x.f1).wf = true) ∧ (((Lit.int .i64 x.f2.f0).wf = true) ∧ ((Lit.int .i64 x.f2.f1).wf = true) ∧ ((Lit.int .i64 x.f2.f2).wf = true) ∧ ((Lit.int .i64 x.f2.f3).wf = true)) ∧ ((Lit.int .i64 x.f3).wf = true) ∧ (True)) :=
  opens_imp (opens_iso (fun x : S92 => (x.f0, x.f1, x.f2, x.f3, x.f4)) (fun p => ⟨p.1, p.2.1, p.2.2.1, p.2.2.2.1, p.2.2.2.2⟩) (fun _ => rfl) (opens_struct Try.underlying92 (opens_cons (by kernel_rfl) (opens_int Try.underlying3) (opens_cons (by kernel_rfl) (opens_int Try.underlying3) (opens_cons (by kernel_rfl) op90 (opens_cons (by kernel_rfl) (opens_int Try.underlying3) (opens_last (by kernel_rfl) (by kernel_rfl) (opens_bool Try.underlying4)))))))) (fun _ h => h)
set_option maxRecDepth 100000 in
theorem lifted (os : Os) (started : os.Started) (H : Type) (enc : TypeId × Value → H) :
    ReturnsInHanded {} Try.checked os 10 .any (Rows.fnExactReactSpec.pre6 enc Try.prog Try.f10 Rows.fnExactReactRow.domain false) (Rows.fnExactReactSpec.post enc Try.prog Try.f10 false true false false) := by
  refine returnsInHanded_of_change_sized (C := Try.checked) own started (by kernel_rfl) Try.func10
    (ChangeSpec.witness6 (enc := enc) (C := Try.checked) false ⟨#[], #[.agg #[.int .i64 0, .slice none 0 0], .agg #[.int .i64 0, .int .i64 0, .int .i64 0, .int .i64 0, .int .i64 0, .int .i64 0, .int .i64 0, .bool false]], []⟩ 8 (by kernel_rfl) (by kernel_rfl) (by kernel_rfl) (by kernel_rfl)) ?_
  intro W base args ds gs before hval0 hW hcnd hsz0 _
  have hval : ∀ (j : Nat) t v, Try.f10.params[j]? = some t → args[j]? = some v → Value.okWide Try.prog W .any base t v := hval0
  have hW' := hW
  obtain ⟨p, q, hA0, hV, rfl, hfz, hnd⟩ := hW
  have hA : DataW.TrodAll enc Try.prog W 0 (fun _ => true) true Try.f10.params.toList args.toList ds p := hA0
  rw [Try.params10] at hA hval
  obtain ⟨v0, vs0, d0, ds0, p0, q0, hargs, rfl, rfl, h0, r0⟩ := trodAll_cons hA
  obtain ⟨v1, vs1, d1, ds1, p1, q1, hargs1, rfl, rfl, h1, r1⟩ := trodAll_cons r0
  subst hargs1
  obtain ⟨rfl, rfl, rfl⟩ := trodAll_nil r1
  obtain rfl : args = #[v0, v1] := by cases args; simp_all
  obtain ⟨rfl, rfl⟩ := trodVars_none hV
  have k0_ := h0
  have lt0 : ∀ x ∈ p0, x.block < W.heap.size := by obtain ⟨m, hm⟩ := k0_; exact DataW.trod_lt m _ _ _ hm
  obtain ⟨cs0, rfl, _⟩ := okWide_struct Try.underlying24 (hval 0 24 v0 rfl rfl)
  obtain ⟨x0, hk0, hq0⟩ := opens_arg op24 h0
  obtain ⟨_, _, hx0, rfl, ⟨A0_1, c0_1, rfl, hc0_1, hr0_1⟩⟩ := hk0
  obtain rfl : cs0 = #[.int .i64 x0.f0, .slice A0_1 x0.f1.length c0_1] := by
    have e : cs0.toList = _ := hx0
    cases cs0
    simpa using e
  have k1_ := h1
  have lt1 : ∀ x ∈ p1, x.block < W.heap.size := by obtain ⟨m, hm⟩ := k1_; exact DataW.trod_lt m _ _ _ hm
  obtain ⟨cs1, rfl, _⟩ := okWide_struct Try.underlying92 (hval 1 92 v1 rfl rfl)
  obtain ⟨x1, hk1, hq1⟩ := opens_arg op92 h1
  obtain ⟨_, _, hx1, rfl, ⟨_, _, rfl, rfl, ⟨_, _, rfl, ⟨_, _, rfl, rfl, ⟨_, _, rfl, rfl, ⟨_, _, rfl, rfl, rfl⟩⟩⟩, ⟨_, _, rfl, rfl, rfl⟩⟩⟩⟩ := hk1
  obtain rfl : cs1 = #[.int .i64 x1.f0, .int .i64 x1.f1, .int .i64 x1.f2.f0, .int .i64 x1.f2.f1, .int .i64 x1.f2.f2, .int .i64 x1.f2.f3, .int .i64 x1.f3, .bool x1.f4] := by
    have e : cs1.toList = _ := hx1
    cases cs1
    simpa using e
  clear hA0 hval0 hsz0
  obtain ⟨k, hk⟩ := Pure.FnExactReact x0.f0 x0.f1 x1.f0 x1.f1 x1.f2.f0 x1.f2.f1 x1.f2.f2 x1.f2.f3 x1.f3 x1.f4 hq0.1 hq0.2 hq1.1 hq1.2.1 hq1.2.2.1.1 hq1.2.2.1.2.1 hq1.2.2.1.2.2.1 hq1.2.2.1.2.2.2 hq1.2.2.2.1
  refine (Z2.calls _ _ _ _ _ _ _ _ _ _ _ _ _ W (hr0_1) (hc0_1) hk).mono fun e W' ⟨he, bel⟩ => ?_
  subst he
  exact ⟨_, rfl, _, _, _, [], _, [], hW', trodAll_mk1 (shut_bool Try.underlying4 _), (trodAll_cons_mk (Below.trod laidOut (by kernel_rfl) (of_decide_eq_true (by kernel_rfl)) k0_ bel lt0) (trodAll_cons_mk (Below.trod laidOut (by kernel_rfl) (of_decide_eq_true (by kernel_rfl)) k1_ bel lt1) trodAll_mk0)), rfl, bel.frame _, fun h => by cases h⟩
theorem over : Rows.fnExactReactRow.holds Try.pinned (OpenSpec.ofChange Rows.fnExactReactSpec) :=
  OpenClaim.holds_of_wide 10 Try.f10 rfl rfl rfl rfl rfl rfl rfl ⟨rfl, rfl, rfl, rfl, rfl⟩ rfl rfl rfl rfl rfl (by kernel_rfl) Try.func10 (by kernel_rfl)
    (of_decide_eq_true (by kernel_rfl)) (by unfold Func.isWrapper; first | (rw [if_pos (by decide +kernel)]; kernel_rfl) | (rw [if_neg (by decide +kernel)]; exact ⟨rfl, rfl⟩))
    (fun os started H enc _ => lifted os started H enc)
theorem proved : Rows.FnExactReactSaid := over
#print axioms proved
end Go.Proofs.Ythmijfekdeagpaa.fnExactReact
namespace Go.Proofs.Ythmijfekdeagpaa
/-- The row, under a short name, for the claim. -/
theorem fnExactReact_holds : Rows.FnExactReactSaid := fnExactReact.proved
end Go.Proofs.Ythmijfekdeagpaa
