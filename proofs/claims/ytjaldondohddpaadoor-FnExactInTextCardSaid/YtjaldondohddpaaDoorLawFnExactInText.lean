/- For every input that Go's types allow, the call of laws.FnExactInText returns true and its arguments read afterwards as before, the tables of Go's library that the row lists being what the program's text lays. Conditions: none beyond the given card's own. -/
import Derived.Test.YtjaldondohddpaaDoorCards
import Derived.Test.YtjaldondohddpaaDoorTie
import Derived.Test.YtjaldondohddpaaDoorItoa
import Derived.LaidMore
import Derived.Stop.Joined
import Derived.Stop.LaidErr
import Derived.Lib.LaidTab
import Derived.SevenTiedAt
import Derived.Test.YtjaldondohddpaaDoorPFnExactInTextx2
import Derived.Test.YtjaldondohddpaaDoorPureFnExactInText
import Derived.Test.YtjaldondohddpaaDoorOpen
import Derived.WalkKit
import Derived.ProofKit
import Derived.OpenShut
import Derived.ShutString
import Derived.ChangeOld
import Derived.Below
import Derived.SizedLaws
namespace Go.Proofs.YtjaldondohddpaaDoor.fnExactInText
open Go.ChangeShapes Go.WideShapes Go.ChangeAt Go.RowKit Go.Proofs.YtjaldondohddpaaDoor.Open Go.Proofs.YtjaldondohddpaaDoor.PFnExactInText Go.Proofs.YtjaldondohddpaaDoorW.PrintWords
open Go.Proofs.YtjaldondohddpaaDoor.Tabs
open Go.ChangeMaps (open_string shut_string)
set_option linter.unusedVariables false
theorem own : ownKnob Tryd.prog.godebug = none := by kernel_rfl
theorem laidOut : laidOutB Tryd.prog = true := by kernel_rfl
structure S23 where
  f0 : Int
  f1 : Int
  f2 : Int
  f3 : Int
def k23 : Kd S23 := Kd.iso (Kd.pair (Kd.int .i64) (Kd.pair (Kd.int .i64) (Kd.pair (Kd.int .i64) (Kd.int .i64)))) (fun x : S23 => (x.f0, x.f1, x.f2, x.f3))
theorem op23 : Opens Tryd.prog 23 k23 (fun x => ((Lit.int .i64 x.f0).wf = true) ∧ ((Lit.int .i64 x.f1).wf = true) ∧ ((Lit.int .i64 x.f2).wf = true) ∧ ((Lit.int .i64 x.f3).wf = true)) :=
  opens_imp (opens_iso (fun x : S23 => (x.f0, x.f1, x.f2, x.f3)) (fun p => ⟨p.1, p.2.1, p.2.2.1, p.2.2.2⟩) (fun _ => rfl) (opens_struct Tryd.underlying23 (opens_cons (by kernel_rfl) (opens_int Tryd.underlying3) (opens_cons (by kernel_rfl) (opens_int Tryd.underlying3) (opens_cons (by kernel_rfl) (opens_int Tryd.underlying3) (opens_last (by kernel_rfl) (by kernel_rfl) (opens_int Tryd.underlying3))))))) (fun _ h => h)
structure S38 where
  f0 : Int
  f1 : Int
  f2 : S23
  f3 : Int
  f4 : Bool
def k38 : Kd S38 := Kd.iso (Kd.pair (Kd.int .i64) (Kd.pair (Kd.int .i64) (Kd.pair k23 (Kd.pair (Kd.int .i64) Kd.bool)))) (fun x : S38 => (x.f0, x.f1, x.f2, x.f3, x.f4))
theorem op38 : Opens Tryd.prog 38 k38 (fun x => ((Lit.int .i64 x.f0).wf = true) ∧ ((Lit.int .i64 x.f1).wf = true) ∧ (((Lit.int .i64 x.f2.f0).wf = true) ∧ ((Lit.int .i64 x.f2.f1).wf = true) ∧ ((Lit.int .i64 x.f2.f2).wf = true) ∧ ((Lit.int .i64 x.f2.f3).wf = true)) ∧ ((Lit.int .i64 x.f3).wf = true) ∧ (True)) :=
  opens_imp (opens_iso (fun x : S38 => (x.f0, x.f1, x.f2, x.f3, x.f4)) (fun p => ⟨p.1, p.2.1, p.2.2.1, p.2.2.2.1, p.2.2.2.2⟩) (fun _ => rfl) (opens_struct Tryd.underlying38 (opens_cons (by kernel_rfl) (opens_int Tryd.underlying3) (opens_cons (by kernel_rfl) (opens_int Tryd.underlying3) (opens_cons (by kernel_rfl) op23 (opens_cons (by kernel_rfl) (opens_int Tryd.underlying3) (opens_last (by kernel_rfl) (by kernel_rfl) (opens_bool Tryd.underlying4)))))))) (fun _ h => h)
theorem tabs {W : World} (hL : laidMetH Tryd.prog Rows.fnExactInTextRow.laid W) : TabI W := by
  rw [MakeChecks.laidMetH_plain _ _ _ (by kernel_rfl)] at hL
  have h : laidMet Tryd.prog Rows.fnExactInTextRow.laid W := hL
  have gN : ∃ g, Tryd.prog.globalNamed "internal/strconv.uint64pow10" = some g ∧ (Tryd.prog.globals[g]?).map (·.type) = some 87 := by
    have e : ((Tryd.prog.globalNamed "internal/strconv.uint64pow10").bind fun g => (Tryd.prog.globals[g]?).map (·.type)) = some 87 := by kernel_rfl
    cases hg : Tryd.prog.globalNamed "internal/strconv.uint64pow10" with
    | none => rw [hg] at e; cases e
    | some g => rw [hg] at e; exact ⟨g, rfl, e⟩
  obtain ⟨g, hg, hty⟩ := gN
  exact Lib.tabIs_of_head (zs := Lib.pow10Tab) (rest := []) hg hty Tryd.underlying87 Tryd.underlying80 (by kernel_rfl) (by kernel_rfl) (h.tail).tail
theorem door_met (os : Os) (args : Array Value) : laidMetH Tryd.prog Rows.fnExactInTextRow.laid ((World.doorLaid Tryd.prog 400 os).forCall (fun _ _ => 0) ⟨#[], args, []⟩).memory :=
  laidMetH_of_parts3 (fuel := 8) (laidMet_of_run' 8 (by kernel_rfl) (by kernel_rfl)) (by kernel_rfl) (by kernel_rfl)
set_option maxRecDepth 100000 in
theorem lifted (os : Os) (started : os.Started) (H : Type) (enc : TypeId × Value → H) :
    ReturnsInHanded {} Tryd.checked os 5 .any (fun w args => (Rows.fnExactInTextSpec.pre enc Tryd.prog Tryd.f5 [] false w args ∧ laidMetH Tryd.prog Rows.fnExactInTextRow.laid w) ∧ sizedMet enc Tryd.prog Tryd.f5 (OpenSpec.ofChange Rows.fnExactInTextSpec) false w args) (Rows.fnExactInTextSpec.post enc Tryd.prog Tryd.f5 false true false false) := by
  refine returnsInHanded_of_change_and (C := Tryd.checked) (X := fun w _ => laidMetH Tryd.prog Rows.fnExactInTextRow.laid w) (fun _ _ _ hh h => h.of_heap hh) own started (by kernel_rfl) Tryd.func5
    (ChangeSpec.witness_shaped (enc := enc) (C := Tryd.checked) (os := os) (X := fun w _ => laidMetH Tryd.prog Rows.fnExactInTextRow.laid w) false (World.doorLaid Tryd.prog 400 os) #[.agg #[.int .i64 0, .int .i64 0, .int .i64 0, .int .i64 0, .int .i64 0, .int .i64 0, .int .i64 0, .bool false]] 8 rfl (World.shaped_of_RefB (by kernel_rfl) (by kernel_rfl)) (by kernel_rfl) (by kernel_rfl) (by kernel_rfl) (door_met os _)) ?_
  intro W base args ds gs before hval0 hW _ hsz0 hL _
  have hval : ∀ (j : Nat) t v, Tryd.f5.params[j]? = some t → args[j]? = some v → Value.okWide Tryd.prog W .any base t v := hval0
  have hW' := hW
  obtain ⟨p, q, hA0, hV, rfl, hfz, hnd⟩ := hW
  have hA : DataW.TrodAll enc Tryd.prog W 0 (fun _ => true) true Tryd.f5.params.toList args.toList ds p := hA0
  rw [Tryd.params5] at hA hval
  obtain ⟨v0, vs0, d0, ds0, p0, q0, hargs, rfl, rfl, h0, r0⟩ := trodAll_cons hA
  obtain ⟨rfl, rfl, rfl⟩ := trodAll_nil r0
  obtain rfl : args = #[v0] := by cases args; simp_all
  obtain ⟨rfl, rfl⟩ := trodVars_none hV
  have k0_ := h0
  have lt0 : ∀ x ∈ p0, x.block < W.heap.size := by obtain ⟨m, hm⟩ := k0_; exact DataW.trod_lt m _ _ _ hm
  obtain ⟨cs0, rfl, _⟩ := okWide_struct Tryd.underlying38 (hval 0 38 v0 rfl rfl)
  obtain ⟨x0, hk0, hq0⟩ := opens_arg op38 h0
  obtain ⟨_, _, hx0, rfl, ⟨_, _, rfl, rfl, ⟨_, _, rfl, ⟨_, _, rfl, rfl, ⟨_, _, rfl, rfl, ⟨_, _, rfl, rfl, rfl⟩⟩⟩, ⟨_, _, rfl, rfl, rfl⟩⟩⟩⟩ := hk0
  obtain rfl : cs0 = #[.int .i64 x0.f0, .int .i64 x0.f1, .int .i64 x0.f2.f0, .int .i64 x0.f2.f1, .int .i64 x0.f2.f2, .int .i64 x0.f2.f3, .int .i64 x0.f3, .bool x0.f4] := by
    have e : cs0.toList = _ := hx0
    cases cs0
    simpa using e
  clear hA0 hval0 hsz0
  obtain ⟨k, hk⟩ := Pure.FnExactInText x0.f0 x0.f1 x0.f2.f0 x0.f2.f1 x0.f2.f2 x0.f2.f3 x0.f3 x0.f4 hq0.1 hq0.2.1 hq0.2.2.1.1 hq0.2.2.1.2.1 hq0.2.2.1.2.2.1 hq0.2.2.1.2.2.2 hq0.2.2.2.1
  refine (laws_FnExactInText.calls _ _ _ _ _ _ _ _ _ true W (tabs hL) hk).mono fun e W' ⟨he, bel⟩ => ?_
  subst he
  exact ⟨_, rfl, _, _, _, [], _, [], hW', trodAll_mk1 (shut_bool Tryd.underlying4 _), (trodAll_cons_mk (Below.trod laidOut (by kernel_rfl) (of_decide_eq_true (by kernel_rfl)) k0_ bel lt0) trodAll_mk0), rfl, bel.frame _, fun h => by cases h⟩
theorem over : Rows.fnExactInTextRow.holds Tryd.pinned (OpenSpec.ofChange Rows.fnExactInTextSpec) :=
  OpenClaim.holds_of_wide 5 Tryd.f5 rfl rfl rfl rfl rfl rfl rfl ⟨rfl, rfl, rfl, rfl, rfl⟩ rfl rfl rfl rfl rfl (by kernel_rfl) Tryd.func5 (by kernel_rfl)
    (of_decide_eq_true (by kernel_rfl)) (by unfold Func.isWrapper; first | (rw [if_pos (by decide +kernel)]; kernel_rfl) | (rw [if_neg (by decide +kernel)]; exact ⟨rfl, rfl⟩))
    (fun os started H enc _ => lifted os started H enc)
theorem said : Rows.FnExactInTextSaid := over
theorem plain (f : FuncId) (fn : Func) (hf : Tryd.prog.funcNamed "loop.example/g00470/laws.FnExactInText" = some f) (hfn : Tryd.prog.funcs[f]? = some fn) :
    false = Tryd.prog.looks [] ∧ ∀ (j : Nat) t, fn.params[j]? = some t → Tryd.prog.wantsStandIn t = false := by
  obtain rfl : f = 5 := Option.some.inj ((show Tryd.prog.funcNamed "loop.example/g00470/laws.FnExactInText" = some 5 by kernel_rfl).symm.trans hf) |>.symm
  obtain rfl : fn = Tryd.f5 := (Option.some.inj (Tryd.func5.symm.trans hfn)).symm
  refine ⟨by kernel_rfl, fun j t ht => ?_⟩
  rw [Tryd.params5] at ht
  have hall : (Tryd.f5.params.toList.all fun u => !Tryd.prog.wantsStandIn u) = true := by kernel_rfl
  rw [Tryd.params5] at hall
  have hm := Array.mem_of_getElem? ht
  simpa using List.all_eq_true.1 hall t (by simpa using hm)
theorem proved : Rows.FnExactInTextCardSaid :=
  Claim7.holds_tied_plain_at .later [] [.data, .data, .data] true (true, "47d1e98a0e07842eef39e0cc3d131fdeb3ffb359438ebf13d096f48c31056d62") false
    said (fun _ h => by cases h) (by kernel_rfl) (fun _ h => by cases h) fnExactInText_row_tie rfl ⟨rfl, rfl⟩ (by kernel_rfl) rfl plain (by kernel_rfl)
#print axioms proved
end Go.Proofs.YtjaldondohddpaaDoor.fnExactInText
namespace Go.Proofs.YtjaldondohddpaaDoor
/-- The card, under a short name, for the claim. -/
theorem fnExactInText_holds : Rows.FnExactInTextCardSaid := fnExactInText.proved
end Go.Proofs.YtjaldondohddpaaDoor
