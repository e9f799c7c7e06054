/- For every input that Go's types allow, the call of laws.FnExactDigits returns true and its arguments read afterwards as before, the tables of Go's library that the row lists being what the program's text lays. Conditions: none beyond the given card's own. -/
import Derived.Test.YtjmkbmpfknhcdaaDoorCards
import Derived.Test.YtjmkbmpfknhcdaaDoorTie
import Derived.Test.YtjmkbmpfknhcdaaDoorItoa
import Derived.LaidMore
import Derived.Stop.Joined
import Derived.Stop.LaidErr
import Derived.Lib.LaidTab
import Derived.SevenTiedAt
import Derived.Test.YtjmkbmpfknhcdaaDoorPFnExactDigitsx1
import Derived.Test.YtjmkbmpfknhcdaaDoorPureFnExactDigits
import Derived.Test.YtjmkbmpfknhcdaaDoorOpen
import Derived.WalkKit
import Derived.ProofKit
import Derived.OpenShut
import Derived.ShutString
import Derived.ChangeOld
import Derived.Below
import Derived.SizedLaws
namespace Go.Proofs.YtjmkbmpfknhcdaaDoor.fnExactDigits
open Go.ChangeShapes Go.WideShapes Go.ChangeAt Go.RowKit Go.Proofs.YtjmkbmpfknhcdaaDoor.Open Go.Proofs.YtjmkbmpfknhcdaaDoor.PFnExactDigits Go.Proofs.YtjmkbmpfknhcdaaDoorW.PrintWords
open Go.Proofs.YtjmkbmpfknhcdaaDoor.Tabs
open Go.ChangeMaps (open_string shut_string)
set_option linter.unusedVariables false
theorem own : ownKnob Tryd.prog.godebug = none := by kernel_rfl
theorem laidOut : laidOutB Tryd.prog = true := by kernel_rfl
theorem tabs {W : World} (hL : laidMetH Tryd.prog Rows.fnExactDigitsRow.laid W) : TabI W := by
  rw [MakeChecks.laidMetH_plain _ _ _ (by kernel_rfl)] at hL
  have h : laidMet Tryd.prog Rows.fnExactDigitsRow.laid W := hL
  have gN : ∃ g, Tryd.prog.globalNamed "internal/strconv.uint64pow10" = some g ∧ (Tryd.prog.globals[g]?).map (·.type) = some 43 := by
    have e : ((Tryd.prog.globalNamed "internal/strconv.uint64pow10").bind fun g => (Tryd.prog.globals[g]?).map (·.type)) = some 43 := by kernel_rfl
    cases hg : Tryd.prog.globalNamed "internal/strconv.uint64pow10" with
    | none => rw [hg] at e; cases e
    | some g => rw [hg] at e; exact ⟨g, rfl, e⟩
  obtain ⟨g, hg, hty⟩ := gN
  exact Lib.tabIs_of_head (zs := Lib.pow10Tab) (rest := []) hg hty Tryd.underlying43 Tryd.underlying36 (by kernel_rfl) (by kernel_rfl) (h.tail).tail
theorem door_met (os : Os) (args : Array Value) : laidMetH Tryd.prog Rows.fnExactDigitsRow.laid ((World.doorLaid Tryd.prog 400 os).forCall (fun _ _ => 0) ⟨#[], args, []⟩).memory :=
  laidMetH_of_parts3 (fuel := 8) (laidMet_of_run' 8 (by kernel_rfl) (by kernel_rfl)) (by kernel_rfl) (by kernel_rfl)
set_option maxRecDepth 100000 in
theorem lifted (os : Os) (started : os.Started) (H : Type) (enc : TypeId × Value → H) :
    ReturnsInHanded {} Tryd.checked os 3 .any (fun w args => (Rows.fnExactDigitsSpec.pre enc Tryd.prog Tryd.f3 [] false w args ∧ laidMetH Tryd.prog Rows.fnExactDigitsRow.laid w) ∧ sizedMet enc Tryd.prog Tryd.f3 (OpenSpec.ofChange Rows.fnExactDigitsSpec) false w args) (Rows.fnExactDigitsSpec.post enc Tryd.prog Tryd.f3 false true false false) := by
  refine returnsInHanded_of_change_and (C := Tryd.checked) (X := fun w _ => laidMetH Tryd.prog Rows.fnExactDigitsRow.laid w) (fun _ _ _ hh h => h.of_heap hh) own started (by kernel_rfl) Tryd.func3
    (ChangeSpec.witness_shaped (enc := enc) (C := Tryd.checked) (os := os) (X := fun w _ => laidMetH Tryd.prog Rows.fnExactDigitsRow.laid w) false (World.doorLaid Tryd.prog 400 os) #[.int .i64 0] 8 rfl (World.shaped_of_RefB (by kernel_rfl) (by kernel_rfl)) (by kernel_rfl) (by kernel_rfl) (by kernel_rfl) (door_met os _)) ?_
  intro W base args ds gs before hval0 hW _ hsz0 hL _
  have hval : ∀ (j : Nat) t v, Tryd.f3.params[j]? = some t → args[j]? = some v → Value.okWide Tryd.prog W .any base t v := hval0
  have hW' := hW
  obtain ⟨p, q, hA0, hV, rfl, hfz, hnd⟩ := hW
  have hA : DataW.TrodAll enc Tryd.prog W 0 (fun _ => true) true Tryd.f3.params.toList args.toList ds p := hA0
  rw [Tryd.params3] at hA hval
  obtain ⟨v0, vs0, d0, ds0, p0, q0, hargs, rfl, rfl, h0, r0⟩ := trodAll_cons hA
  obtain ⟨rfl, rfl, rfl⟩ := trodAll_nil r0
  obtain rfl : args = #[v0] := by cases args; simp_all
  obtain ⟨rfl, rfl⟩ := trodVars_none hV
  have k0_ := h0
  have lt0 : ∀ x ∈ p0, x.block < W.heap.size := by obtain ⟨m, hm⟩ := k0_; exact DataW.trod_lt m _ _ _ hm
  obtain ⟨z0, rfl⟩ := okWide_int Tryd.underlying3 (hval 0 3 v0 rfl rfl)
  obtain ⟨a0, hx0, hq0⟩ := opens_arg (opens_int Tryd.underlying3) h0
  obtain rfl : a0 = z0 := by
    have e : [Value.int .i64 z0] = [Value.int .i64 a0] := hx0
    simp at e
    exact e.symm
  clear hA0 hval0 hsz0
  obtain ⟨k, hk⟩ := Pure.FnExactDigits a0 hq0
  refine (laws_FnExactDigits.calls _ _ true W (tabs hL) hk).mono fun e W' ⟨he, bel⟩ => ?_
  subst he
  exact ⟨_, rfl, _, _, _, [], _, [], hW', trodAll_mk1 (shut_bool Tryd.underlying4 _), (trodAll_cons_mk (Below.trod laidOut (by kernel_rfl) (of_decide_eq_true (by kernel_rfl)) k0_ bel lt0) trodAll_mk0), rfl, bel.frame _, fun h => by cases h⟩
theorem over : Rows.fnExactDigitsRow.holds Tryd.pinned (OpenSpec.ofChange Rows.fnExactDigitsSpec) :=
  OpenClaim.holds_of_wide 3 Tryd.f3 rfl rfl rfl rfl rfl rfl rfl ⟨rfl, rfl, rfl, rfl, rfl⟩ rfl rfl rfl rfl rfl (by kernel_rfl) Tryd.func3 (by kernel_rfl)
    (of_decide_eq_true (by kernel_rfl)) (by unfold Func.isWrapper; first | (rw [if_pos (by decide +kernel)]; kernel_rfl) | (rw [if_neg (by decide +kernel)]; exact ⟨rfl, rfl⟩))
    (fun os started H enc _ => lifted os started H enc)
theorem said : Rows.FnExactDigitsSaid := over
theorem plain (f : FuncId) (fn : Func) (hf : Tryd.prog.funcNamed "loop.example/g00470/laws.FnExactDigits" = some f) (hfn : Tryd.prog.funcs[f]? = some fn) :
    false = Tryd.prog.looks [] ∧ ∀ (j : Nat) t, fn.params[j]? = some t → Tryd.prog.wantsStandIn t = false := by
  obtain rfl : f = 3 := Option.some.inj ((show Tryd.prog.funcNamed "loop.example/g00470/laws.FnExactDigits" = some 3 by kernel_rfl).symm.trans hf) |>.symm
  obtain rfl : fn = Tryd.f3 := (Option.some.inj (Tryd.func3.symm.trans hfn)).symm
  refine ⟨by kernel_rfl, fun j t ht => ?_⟩
  rw [Tryd.params3] at ht
  have hall : (Tryd.f3.params.toList.all fun u => !Tryd.prog.wantsStandIn u) = true := by kernel_rfl
  rw [Tryd.params3] at hall
  have hm := Array.mem_of_getElem? ht
  simpa using List.all_eq_true.1 hall t (by simpa using hm)
theorem proved : Rows.FnExactDigitsCardSaid :=
  Claim7.holds_tied_plain_at .later [] [.data, .data, .data] true (true, "5b171aca9f4e82b2ae64e7692616f746bc0ee709d1399d49a9f0e3a89b4748c6") false
    said (fun _ h => by cases h) (by kernel_rfl) (fun _ h => by cases h) fnExactDigits_row_tie rfl ⟨rfl, rfl⟩ (by kernel_rfl) rfl plain (by kernel_rfl)
#print axioms proved
end Go.Proofs.YtjmkbmpfknhcdaaDoor.fnExactDigits
namespace Go.Proofs.YtjmkbmpfknhcdaaDoor
/-- The card, under a short name, for the claim. -/
theorem fnExactDigits_holds : Rows.FnExactDigitsCardSaid := fnExactDigits.proved
end Go.Proofs.YtjmkbmpfknhcdaaDoor
