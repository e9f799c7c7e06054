/- For every input that Go's types allow, the call of laws.FnVecs returns true and its arguments read afterwards as before, the tables of Go's library that the row lists being what the program's text lays. Conditions: none beyond the given card's own. -/
import Derived.Test.YtjaldondohddpaaDoorCards
import Derived.Test.YtjaldondohddpaaDoorTie
import Derived.Test.YtjaldondohddpaaDoorItoa
import Derived.LaidMore
import Derived.Stop.Joined
import Derived.Stop.LaidErr
import Derived.Lib.LaidTab
import Derived.SevenTiedAt
import Derived.Test.YtjaldondohddpaaDoorPFnVecsx6
import Derived.Test.YtjaldondohddpaaDoorPureFnVecs
import Derived.Test.YtjaldondohddpaaDoorOpen
import Derived.WalkKit
import Derived.ProofKit
import Derived.OpenShut
import Derived.ShutString
import Derived.ChangeOld
import Derived.Below
import Derived.SizedLaws
namespace Go.Proofs.YtjaldondohddpaaDoor.fnVecs
open Go.ChangeShapes Go.WideShapes Go.ChangeAt Go.RowKit Go.Proofs.YtjaldondohddpaaDoor.Open Go.Proofs.YtjaldondohddpaaDoor.PFnVecs Go.Proofs.YtjaldondohddpaaDoorW.PrintWords
open Go.Proofs.YtjaldondohddpaaDoor.Tabs
open Go.ChangeMaps (open_string shut_string)
set_option linter.unusedVariables false
theorem own : ownKnob Tryd.prog.godebug = none := by kernel_rfl
theorem laidOut : laidOutB Tryd.prog = true := by kernel_rfl
theorem tabs {W : World} (hL : laidMetH Tryd.prog Rows.fnVecsRow.laid W) : TabI W := by
  rw [MakeChecks.laidMetH_plain _ _ _ (by kernel_rfl)] at hL
  have h : laidMet Tryd.prog Rows.fnVecsRow.laid W := hL
  have gN : ∃ g, Tryd.prog.globalNamed "internal/strconv.uint64pow10" = some g ∧ (Tryd.prog.globals[g]?).map (·.type) = some 87 := by
    have e : ((Tryd.prog.globalNamed "internal/strconv.uint64pow10").bind fun g => (Tryd.prog.globals[g]?).map (·.type)) = some 87 := by kernel_rfl
    cases hg : Tryd.prog.globalNamed "internal/strconv.uint64pow10" with
    | none => rw [hg] at e; cases e
    | some g => rw [hg] at e; exact ⟨g, rfl, e⟩
  obtain ⟨g, hg, hty⟩ := gN
  exact Lib.tabIs_of_head (zs := Lib.pow10Tab) (rest := []) hg hty Tryd.underlying87 Tryd.underlying80 (by kernel_rfl) (by kernel_rfl) (h.tail).tail
theorem door_met (os : Os) (args : Array Value) : laidMetH Tryd.prog Rows.fnVecsRow.laid ((World.doorLaid Tryd.prog 400 os).forCall (fun _ _ => 0) ⟨#[], args, []⟩).memory :=
  laidMetH_of_parts3 (fuel := 8) (laidMet_of_run' 8 (by kernel_rfl) (by kernel_rfl)) (by kernel_rfl) (by kernel_rfl)
set_option maxRecDepth 100000 in
theorem lifted (os : Os) (started : os.Started) (H : Type) (enc : TypeId × Value → H) :
    ReturnsInHanded {} Tryd.checked os 6 .any (fun w args => (Rows.fnVecsSpec.pre enc Tryd.prog Tryd.f6 [] false w args ∧ laidMetH Tryd.prog Rows.fnVecsRow.laid w) ∧ sizedMet enc Tryd.prog Tryd.f6 (OpenSpec.ofChange Rows.fnVecsSpec) false w args) (Rows.fnVecsSpec.post enc Tryd.prog Tryd.f6 false true false false) := by
  refine returnsInHanded_of_change_and (C := Tryd.checked) (X := fun w _ => laidMetH Tryd.prog Rows.fnVecsRow.laid w) (fun _ _ _ hh h => h.of_heap hh) own started (by kernel_rfl) Tryd.func6
    (ChangeSpec.witness_shaped (enc := enc) (C := Tryd.checked) (os := os) (X := fun w _ => laidMetH Tryd.prog Rows.fnVecsRow.laid w) false (World.doorLaid Tryd.prog 400 os) #[.slice none 0 0] 8 rfl (World.shaped_of_RefB (by kernel_rfl) (by kernel_rfl)) (by kernel_rfl) (by kernel_rfl) (by kernel_rfl) (door_met os _)) ?_
  intro W base args ds gs before hval0 hW _ hsz0 hL _
  have hval : ∀ (j : Nat) t v, Tryd.f6.params[j]? = some t → args[j]? = some v → Value.okWide Tryd.prog W .any base t v := hval0
  have hW' := hW
  obtain ⟨p, q, hA0, hV, rfl, hfz, hnd⟩ := hW
  have hA : DataW.TrodAll enc Tryd.prog W 0 (fun _ => true) true Tryd.f6.params.toList args.toList ds p := hA0
  rw [Tryd.params6] at hA hval
  obtain ⟨v0, vs0, d0, ds0, p0, q0, hargs, rfl, rfl, h0, r0⟩ := trodAll_cons hA
  obtain ⟨rfl, rfl, rfl⟩ := trodAll_nil r0
  obtain rfl : args = #[v0] := by cases args; simp_all
  obtain ⟨rfl, rfl⟩ := trodVars_none hV
  have k0_ := h0
  have lt0 : ∀ x ∈ p0, x.block < W.heap.size := by obtain ⟨m, hm⟩ := k0_; exact DataW.trod_lt m _ _ _ hm
  obtain ⟨A0, n0, c0, rfl⟩ := okWide_slice Tryd.underlying44 (hval 0 44 v0 rfl rfl)
  obtain ⟨l0, ⟨A0_, c0_, hx0, hc0, hr0⟩, hq0⟩ := opens_arg (opens_slice Tryd.underlying44 (by kernel_rfl) (opens_int Tryd.underlying5)) h0
  obtain ⟨rfl, rfl, rfl⟩ : A0 = A0_ ∧ n0 = l0.length ∧ c0 = c0_ := by have e : [Value.slice A0 n0 c0] = [Value.slice A0_ l0.length c0_] := hx0; simpa using e
  clear hA0 hval0 hsz0
  obtain ⟨k, hk⟩ := Pure.FnVecs l0 hq0
  refine (laws_FnVecs.calls _ _ _ _ true W (tabs hL) (hr0) (hc0) hk).mono fun e W' ⟨he, bel⟩ => ?_
  subst he
  exact ⟨_, rfl, _, _, _, [], _, [], hW', trodAll_mk1 (shut_bool Tryd.underlying4 _), (trodAll_cons_mk (Below.trod laidOut (by kernel_rfl) (of_decide_eq_true (by kernel_rfl)) k0_ bel lt0) trodAll_mk0), rfl, bel.frame _, fun h => by cases h⟩
theorem over : Rows.fnVecsRow.holds Tryd.pinned (OpenSpec.ofChange Rows.fnVecsSpec) :=
  OpenClaim.holds_of_wide 6 Tryd.f6 rfl rfl rfl rfl rfl rfl rfl ⟨rfl, rfl, rfl, rfl, rfl⟩ rfl rfl rfl rfl rfl (by kernel_rfl) Tryd.func6 (by kernel_rfl)
    (of_decide_eq_true (by kernel_rfl)) (by unfold Func.isWrapper; first | (rw [if_pos (by decide +kernel)]; kernel_rfl) | (rw [if_neg (by decide +kernel)]; exact ⟨rfl, rfl⟩))
    (fun os started H enc _ => lifted os started H enc)
theorem said : Rows.FnVecsSaid := over
theorem plain (f : FuncId) (fn : Func) (hf : Tryd.prog.funcNamed "loop.example/g00470/laws.FnVecs" = some f) (hfn : Tryd.prog.funcs[f]? = some fn) :
    false = Tryd.prog.looks [] ∧ ∀ (j : Nat) t, fn.params[j]? = some t → Tryd.prog.wantsStandIn t = false := by
  obtain rfl : f = 6 := Option.some.inj ((show Tryd.prog.funcNamed "loop.example/g00470/laws.FnVecs" = some 6 by kernel_rfl).symm.trans hf) |>.symm
  obtain rfl : fn = Tryd.f6 := (Option.some.inj (Tryd.func6.symm.trans hfn)).symm
  refine ⟨by kernel_rfl, fun j t ht => ?_⟩
  rw [Tryd.params6] at ht
  have hall : (Tryd.f6.params.toList.all fun u => !Tryd.prog.wantsStandIn u) = true := by kernel_rfl
  rw [Tryd.params6] at hall
  have hm := Array.mem_of_getElem? ht
  simpa using List.all_eq_true.1 hall t (by simpa using hm)
theorem proved : Rows.FnVecsCardSaid :=
  Claim7.holds_tied_plain_at .later [] [.data, .data, .data] true (true, "47d1e98a0e07842eef39e0cc3d131fdeb3ffb359438ebf13d096f48c31056d62") false
    said (fun _ h => by cases h) (by kernel_rfl) (fun _ h => by cases h) fnVecs_row_tie rfl ⟨rfl, rfl⟩ (by kernel_rfl) rfl plain (by kernel_rfl)
#print axioms proved
end Go.Proofs.YtjaldondohddpaaDoor.fnVecs
namespace Go.Proofs.YtjaldondohddpaaDoor
/-- The card, under a short name, for the claim. -/
theorem fnVecs_holds : Rows.FnVecsCardSaid := fnVecs.proved
end Go.Proofs.YtjaldondohddpaaDoor
