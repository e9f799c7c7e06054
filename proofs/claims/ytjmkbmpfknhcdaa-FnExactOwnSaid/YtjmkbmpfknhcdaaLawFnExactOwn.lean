/- For every input that Go's types allow, the call of laws.FnExactOwn returns true and its arguments read afterwards as before. Conditions: none beyond the given row's own. -/
import Derived.Test.YtjmkbmpfknhcdaaRows
import Derived.Test.YtjmkbmpfknhcdaaVFnExactOwnPx12
import Derived.Test.YtjmkbmpfknhcdaaVFnExactOwnPure
import Derived.Test.YtjmkbmpfknhcdaaVFnExactOwnOpen
import Derived.WalkKit
import Derived.ProofKit
import Derived.OpenShut
import Derived.ShutString
import Derived.ChangeOld
import Derived.Below
import Derived.SizedLaws
namespace Go.Proofs.Ytjmkbmpfknhcdaa.fnExactOwn
open Go.ChangeShapes Go.WideShapes Go.ChangeAt Go.RowKit Go.Proofs.Ytjmkbmpfknhcdaa.Open Go.Proofs.Ytjmkbmpfknhcdaa.PFnExactOwn Go.Proofs.YtjmkbmpfknhcdaaW.PrintWords
open Go.ChangeMaps (open_string shut_string)
set_option linter.unusedVariables false
theorem own : ownKnob Try.prog.godebug = none := by kernel_rfl
theorem laidOut : laidOutB Try.prog = true := by kernel_rfl
theorem op127 : Opens Try.prog 127 k127 (fun x => ((Lit.int .i64 x.f0).wf = true) ∧ ((Lit.int .i64 x.f1).wf = true) ∧ ((Lit.int .i64 x.f2).wf = true) ∧ ((Lit.int .i64 x.f3).wf = true)) :=
  opens_imp (opens_iso (fun x : S127 => (x.f0, x.f1, x.f2, x.f3)) (fun p => ⟨p.1, p.2.1, p.2.2.1, p.2.2.2⟩) (fun _ => rfl) (opens_struct Try.underlying127 (opens_cons (by kernel_rfl) (opens_int Try.underlying3) (opens_cons (by kernel_rfl) (opens_int Try.underlying3) (opens_cons (by kernel_rfl) (opens_int Try.underlying3) (opens_last (by kernel_rfl) (by kernel_rfl) (opens_int Try.underlying3))))))) (fun _ h => h)
theorem op129 : Opens Try.prog 129 k129 (fun x => (True) ∧ (True) ∧ (((Lit.int .i64 x.f2.f0).wf = true) ∧ ((Lit.int .i64 x.f2.f1).wf = true) ∧ ((Lit.int .i64 x.f2.f2).wf = true) ∧ ((Lit.int .i64 x.f2.f3).wf = true)) ∧ ((Lit.int .i64 x.f3).wf = true) ∧ ((Lit.int .i64 x.f4).wf = true) ∧ ((Lit.int .i64 x.f5).wf = true) ∧ ((Lit.int .i64 x.f6).wf = true) ∧ (True)) :=
  opens_imp (opens_iso (fun x : S129 => (x.f0, x.f1, x.f2, x.f3, x.f4, x.f5, x.f6, x.f7)) (fun p => ⟨p.1, p.2.1, p.2.2.1, p.2.2.2.1, p.2.2.2.2.1, p.2.2.2.2.2.1, p.2.2.2.2.2.2.1, p.2.2.2.2.2.2.2⟩) (fun _ => rfl) (opens_struct Try.underlying129 (opens_cons (by kernel_rfl) (opens_bool Try.underlying4) (opens_cons (by kernel_rfl) (opens_bool Try.underlying4) (opens_cons (by kernel_rfl) op127 (opens_cons (by kernel_rfl) (opens_int Try.underlying3) (opens_cons (by kernel_rfl) (opens_int Try.underlying3) (opens_cons (by kernel_rfl) (opens_int Try.underlying3) (opens_cons (by kernel_rfl) (opens_int Try.underlying3) (opens_last (by kernel_rfl) (by kernel_rfl) (opens_bool Try.underlying4))))))))))) (fun _ h => h)
structure S60 where
  f0 : Int
  f1 : List (S129)
def k60 : Kd S60 := Kd.iso (Kd.pair (Kd.int .i64) (Kd.slice 129 k129)) (fun x : S60 => (x.f0, x.f1))
theorem op60 : Opens Try.prog 60 k60 (fun x => ((Lit.int .i64 x.f0).wf = true) ∧ (x.f1.length ≤ maxLen ∧ ∀ y ∈ x.f1, (True) ∧ (True) ∧ (((Lit.int .i64 y.f2.f0).wf = true) ∧ ((Lit.int .i64 y.f2.f1).wf = true) ∧ ((Lit.int .i64 y.f2.f2).wf = true) ∧ ((Lit.int .i64 y.f2.f3).wf = true)) ∧ ((Lit.int .i64 y.f3).wf = true) ∧ ((Lit.int .i64 y.f4).wf = true) ∧ ((Lit.int .i64 y.f5).wf = true) ∧ ((Lit.int .i64 y.f6).wf = true) ∧ (True))) :=
  opens_imp (opens_iso (fun x : S60 => (x.f0, x.f1)) (fun p => ⟨p.1, p.2⟩) (fun _ => rfl) (opens_struct Try.underlying60 (opens_cons (by kernel_rfl) (opens_int Try.underlying3) (opens_last (by kernel_rfl) (by kernel_rfl) (opens_slice Try.underlying58 (by kernel_rfl) op129))))) (fun _ h => h)
set_option maxRecDepth 100000 in
theorem lifted (os : Os) (started : os.Started) (H : Type) (enc : TypeId × Value → H) :
    ReturnsInHanded {} Try.checked os 11 .any (Rows.fnExactOwnSpec.pre6 enc Try.prog Try.f11 Rows.fnExactOwnRow.domain false) (Rows.fnExactOwnSpec.post enc Try.prog Try.f11 false true false false) := by
  refine returnsInHanded_of_change_sized (C := Try.checked) own started (by kernel_rfl) Try.func11
    (ChangeSpec.witness6 (enc := enc) (C := Try.checked) false ⟨#[], #[.agg #[.int .i64 0, .slice none 0 0], .int .i64 0], []⟩ 8 (by kernel_rfl) (by kernel_rfl) (by kernel_rfl) (by kernel_rfl)) ?_
  intro W base args ds gs before hval0 hW hcnd hsz0 _
  have hval : ∀ (j : Nat) t v, Try.f11.params[j]? = some t → args[j]? = some v → Value.okWide Try.prog W .any base t v := hval0
  have hW' := hW
  obtain ⟨p, q, hA0, hV, rfl, hfz, hnd⟩ := hW
  have hA : DataW.TrodAll enc Try.prog W 0 (fun _ => true) true Try.f11.params.toList args.toList ds p := hA0
  rw [Try.params11] at hA hval
  obtain ⟨v0, vs0, d0, ds0, p0, q0, hargs, rfl, rfl, h0, r0⟩ := trodAll_cons hA
  obtain ⟨v1, vs1, d1, ds1, p1, q1, hargs1, rfl, rfl, h1, r1⟩ := trodAll_cons r0
  subst hargs1
  obtain ⟨rfl, rfl, rfl⟩ := trodAll_nil r1
  obtain rfl : args = #[v0, v1] := by cases args; simp_all
  obtain ⟨rfl, rfl⟩ := trodVars_none hV
  have k0_ := h0
  have lt0 : ∀ x ∈ p0, x.block < W.heap.size := by obtain ⟨m, hm⟩ := k0_; exact DataW.trod_lt m _ _ _ hm
  obtain ⟨cs0, rfl, _⟩ := okWide_struct Try.underlying60 (hval 0 60 v0 rfl rfl)
  obtain ⟨x0, hk0, hq0⟩ := opens_arg op60 h0
  obtain ⟨_, _, hx0, rfl, ⟨A0_1, c0_1, rfl, hc0_1, hr0_1⟩⟩ := hk0
  obtain rfl : cs0 = #[.int .i64 x0.f0, .slice A0_1 x0.f1.length c0_1] := by
    have e : cs0.toList = _ := hx0
    cases cs0
    simpa using e
  have k1_ := h1
  have lt1 : ∀ x ∈ p1, x.block < W.heap.size := by obtain ⟨m, hm⟩ := k1_; exact DataW.trod_lt m _ _ _ hm
  obtain ⟨z1, rfl⟩ := okWide_int Try.underlying3 (hval 1 3 v1 rfl rfl)
  obtain ⟨a1, hx1, hq1⟩ := opens_arg (opens_int Try.underlying3) h1
  obtain rfl : a1 = z1 := by
    have e : [Value.int .i64 z1] = [Value.int .i64 a1] := hx1
    simp at e
    exact e.symm
  clear hA0 hval0 hsz0
  obtain ⟨k, hk⟩ := Pure.FnExactOwn x0.f0 x0.f1 a1 hq0.1 hq0.2 hq1
  refine (laws_FnExactOwn.calls _ _ _ _ _ _ true W (hr0_1) (hc0_1) hk).mono fun e W' ⟨he, bel⟩ => ?_
  subst he
  exact ⟨_, rfl, _, _, _, [], _, [], hW', trodAll_mk1 (shut_bool Try.underlying4 _), (trodAll_cons_mk (Below.trod laidOut (by kernel_rfl) (of_decide_eq_true (by kernel_rfl)) k0_ bel lt0) (trodAll_cons_mk (Below.trod laidOut (by kernel_rfl) (of_decide_eq_true (by kernel_rfl)) k1_ bel lt1) trodAll_mk0)), rfl, bel.frame _, fun h => by cases h⟩
theorem over : Rows.fnExactOwnRow.holds Try.pinned (OpenSpec.ofChange Rows.fnExactOwnSpec) :=
  OpenClaim.holds_of_wide 11 Try.f11 rfl rfl rfl rfl rfl rfl rfl ⟨rfl, rfl, rfl, rfl, rfl⟩ rfl rfl rfl rfl rfl (by kernel_rfl) Try.func11 (by kernel_rfl)
    (of_decide_eq_true (by kernel_rfl)) (by unfold Func.isWrapper; first | (rw [if_pos (by decide +kernel)]; kernel_rfl) | (rw [if_neg (by decide +kernel)]; exact ⟨rfl, rfl⟩))
    (fun os started H enc _ => lifted os started H enc)
theorem proved : Rows.FnExactOwnSaid := over
#print axioms proved
end Go.Proofs.Ytjmkbmpfknhcdaa.fnExactOwn
namespace Go.Proofs.Ytjmkbmpfknhcdaa
/-- The row, under a short name, for the claim. -/
theorem fnExactOwn_holds : Rows.FnExactOwnSaid := fnExactOwn.proved
end Go.Proofs.Ytjmkbmpfknhcdaa
