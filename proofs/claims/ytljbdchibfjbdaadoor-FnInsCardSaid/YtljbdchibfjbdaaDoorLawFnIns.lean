/- For every input that Go's types allow, the call of laws.FnIns returns true and its arguments read afterwards as before, the tables of Go's library that the row lists being what the program's text lays. Conditions: none beyond the given card's own. -/
import Derived.Test.YtljbdchibfjbdaaDoorCards
import Derived.Test.YtljbdchibfjbdaaDoorTie
import Derived.LaidMore
import Derived.Stop.Joined
import Derived.Stop.LaidErr
import Derived.Lib.LaidTab
import Derived.SevenTiedAt
import Derived.Deep.DeepHandedRow
import Derived.Lay
import Derived.Test.YtljbdchibfjbdaaDoorVFnInsPure
import Derived.Test.YtljbdchibfjbdaaDoorVFnInsOpen
import Derived.WalkKit
import Derived.ProofKit
import Derived.OpenShut
import Derived.ShutString
import Derived.ChangeOld
import Derived.Below
import Derived.SizedLaws
namespace Go.Proofs.YtljbdchibfjbdaaDoor.fnIns
open Go.ChangeShapes Go.WideShapes Go.ChangeAt Go.RowKit Go.Proofs.YtljbdchibfjbdaaDoor.Open Go.Proofs.YtljbdchibfjbdaaDoor.PFnIns Go.Proofs.YtljbdchibfjbdaaDoorW.PrintWords
open Go.Proofs.YtljbdchibfjbdaaDoor.Tabs
open Go.ChangeMaps (open_string shut_string)
set_option linter.unusedVariables false
theorem own : ownKnob Tryd.prog.godebug = none := by kernel_rfl
theorem laidOut : laidOutB Tryd.prog = true := by kernel_rfl
theorem tabs {W : World} (hL : laidMetH Tryd.prog Rows.fnInsRow.laid W) : TabI W := by
  rw [MakeChecks.laidMetH_plain _ _ _ (by kernel_rfl)] at hL
  have h : laidMet Tryd.prog Rows.fnInsRow.laid W := hL
  have gN : ∃ g, Tryd.prog.globalNamed "internal/strconv.uint64pow10" = some g ∧ (Tryd.prog.globals[g]?).map (·.type) = some 131 := by
    have e : ((Tryd.prog.globalNamed "internal/strconv.uint64pow10").bind fun g => (Tryd.prog.globals[g]?).map (·.type)) = some 131 := by kernel_rfl
    cases hg : Tryd.prog.globalNamed "internal/strconv.uint64pow10" with
    | none => rw [hg] at e; cases e
    | some g => rw [hg] at e; exact ⟨g, rfl, e⟩
  obtain ⟨g, hg, hty⟩ := gN
  exact Lib.tabIs_of_head (zs := Lib.pow10Tab) (rest := []) hg hty Tryd.underlying131 Tryd.underlying121 (by kernel_rfl) (by kernel_rfl) (h.tail).tail
theorem door_met (os : Os) (args : Array Value) : laidMetH Tryd.prog Rows.fnInsRow.laid ((World.doorLaid Tryd.prog 400 os).forCall (fun _ _ => 0) ⟨#[], args, []⟩).memory :=
  laidMetH_of_parts3 (fuel := 8) (laidMet_of_run' 8 (by kernel_rfl) (by kernel_rfl)) (by kernel_rfl) (by kernel_rfl)
set_option maxRecDepth 100000 in
theorem lifted (os : Os) (started : os.Started) (H : Type) (enc : TypeId × Value → H) :
    ReturnsInHanded {} Tryd.checked os 3 .any (fun w args => (Rows.fnInsSpec.pre enc Tryd.prog Tryd.f3 [] false w args ∧ laidMetH Tryd.prog Rows.fnInsRow.laid w) ∧ sizedMet enc Tryd.prog Tryd.f3 (OpenSpec.ofChange Rows.fnInsSpec) false w args) (Rows.fnInsSpec.post enc Tryd.prog Tryd.f3 false true false false) := by
  refine returnsInHanded_of_change_and (C := Tryd.checked) (X := fun w _ => laidMetH Tryd.prog Rows.fnInsRow.laid w) (fun _ _ _ hh h => h.of_heap hh) own started (by kernel_rfl) Tryd.func3
    (ChangeSpec.witness_shaped (enc := enc) (C := Tryd.checked) (os := os) (X := fun w _ => laidMetH Tryd.prog Rows.fnInsRow.laid w) false (World.doorLaid Tryd.prog 400 os) #[.slice none 0 0] 8 rfl (World.shaped_of_RefB (by kernel_rfl) (by kernel_rfl)) (by kernel_rfl) (by kernel_rfl) (by kernel_rfl) (door_met os _)) ?_
  intro W base args ds gs before hval0 hW _ hsz0 hL _
  have hval : ∀ (j : Nat) t v, Tryd.f3.params[j]? = some t → args[j]? = some v → Value.okWide Tryd.prog W .any base t v := hval0
  have hW' := hW
  obtain ⟨p, q, hA0, hV, rfl, hfz, hnd⟩ := hW
  have hA : DataW.TrodAll enc Tryd.prog W 0 (fun _ => true) true Tryd.f3.params.toList args.toList ds p := hA0
  rw [Tryd.params3] at hA hval
  obtain ⟨v0, vs0, d0, ds0, p0, q0, hargs, rfl, rfl, h0, r0⟩ := trodAll_cons hA
  obtain ⟨rfl, rfl, rfl⟩ := trodAll_nil r0
  obtain rfl : args = #[v0] := by cases args; simp_all
  obtain ⟨rfl, rfl⟩ := trodVars_none hV
  have k0_ := h0
  have lt0 : ∀ x ∈ p0, x.block < W.heap.size := by obtain ⟨m, hm⟩ := k0_; exact DataW.trod_lt m _ _ _ hm
  obtain ⟨A0, n0, c0, rfl⟩ := okWide_slice Tryd.underlying22 (hval 0 22 v0 rfl rfl)
  obtain ⟨l0, ⟨A0_, c0_, hx0, hc0, hr0⟩, hq0⟩ := opens_arg (opens_slice Tryd.underlying22 (by kernel_rfl) (opens_int Tryd.underlying5)) h0
  obtain ⟨rfl, rfl, rfl⟩ : A0 = A0_ ∧ n0 = l0.length ∧ c0 = c0_ := by have e : [Value.slice A0 n0 c0] = [Value.slice A0_ l0.length c0_] := hx0; simpa using e
  clear hA0 hval0 hsz0
  obtain ⟨k, hk⟩ := Pure.FnIns l0 hq0
  refine (Z0.calls _ _ _ _ W (tabs hL) (hr0) (hc0) hk).mono fun e W' ⟨he, bel⟩ => ?_
  subst he
  exact ⟨_, rfl, _, _, _, [], _, [], hW', trodAll_mk1 (shut_bool Tryd.underlying4 _), (trodAll_cons_mk (Below.trod laidOut (by kernel_rfl) (of_decide_eq_true (by kernel_rfl)) k0_ bel lt0) trodAll_mk0), rfl, bel.frame _, fun h => by cases h⟩
theorem over : Rows.fnInsRow.holds Tryd.pinned (OpenSpec.ofChange Rows.fnInsSpec) :=
  OpenClaim.holds_of_wide 3 Tryd.f3 rfl rfl rfl rfl rfl rfl rfl ⟨rfl, rfl, rfl, rfl, rfl⟩ rfl rfl rfl rfl rfl (by kernel_rfl) Tryd.func3 (by kernel_rfl)
    (of_decide_eq_true (by kernel_rfl)) (by unfold Func.isWrapper; first | (rw [if_pos (by decide +kernel)]; kernel_rfl) | (rw [if_neg (by decide +kernel)]; exact ⟨rfl, rfl⟩))
    (fun os started H enc _ => lifted os started H enc)
theorem said : Rows.FnInsSaid := over
theorem plain (f : FuncId) (fn : Func) (hf : Tryd.prog.funcNamed "loop.example/g00470/laws.FnIns" = some f) (hfn : Tryd.prog.funcs[f]? = some fn) :
    false = Tryd.prog.looks [] ∧ ∀ (j : Nat) t, fn.params[j]? = some t → Tryd.prog.wantsStandIn t = false := by
  obtain rfl : f = 3 := Option.some.inj ((show Tryd.prog.funcNamed "loop.example/g00470/laws.FnIns" = some 3 by kernel_rfl).symm.trans hf) |>.symm
  obtain rfl : fn = Tryd.f3 := (Option.some.inj (Tryd.func3.symm.trans hfn)).symm
  refine ⟨by kernel_rfl, fun j t ht => ?_⟩
  rw [Tryd.params3] at ht
  have hall : (Tryd.f3.params.toList.all fun u => !Tryd.prog.wantsStandIn u) = true := by kernel_rfl
  rw [Tryd.params3] at hall
  have hm := Array.mem_of_getElem? ht
  simpa using List.all_eq_true.1 hall t (by simpa using hm)
theorem proved : Rows.FnInsCardSaid :=
  Claim7.holds_tied_plain_at .later [] [.data, .data, .data] true (true, "9cea0112cf0f4b4eed2e2d81961004972fb1f61ebdf274cce2de0bcce43c5ba6") false
    said (fun _ h => by cases h) (by kernel_rfl) (fun _ h => by cases h) fnIns_row_tie rfl ⟨rfl, rfl⟩ (by kernel_rfl) rfl plain (by kernel_rfl)
#print axioms proved
end Go.Proofs.YtljbdchibfjbdaaDoor.fnIns
namespace Go.Proofs.YtljbdchibfjbdaaDoor
/-- The card, under a short name, for the claim. -/
theorem fnIns_holds : Rows.FnInsCardSaid := fnIns.proved
end Go.Proofs.YtljbdchibfjbdaaDoor
