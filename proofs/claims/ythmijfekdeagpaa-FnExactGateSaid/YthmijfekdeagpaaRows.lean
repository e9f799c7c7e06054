/-
  No cell of these rows narrows 'for every input' (looked for: loops, veiled, ifaces, maps, wideKeys, modest, calm, conditions, laid).
  DERIVED. THE GIVEN ROWS OF THIS SEAT. 9 by the template 'for every input the law returns true; each argument reads behind the call as it read before'; 0 by the template 'total and deterministic' (their statements: YthmijfekdeagpaaTotals.lean).
  GIVEN WITH THE SEED: the statements are not yours to turn. If you find one false, say at which input.
  Laid BY PROGRAM, IN A SANDBOX (cutbox-rows.mjs): the forced cells as the released guide's own fill.sh prints them over the translation b89527912e0ddff5… (all of the seat's roots in one cut). By AI agents, Wed Nov 11 2026. No macro, syntax, notation, axiom, sorry.
-/
import Derived.Test.YthmijfekdeagpaaChecked
import GoSem.Claim
import GoSem.ClaimJoined
import GoSem.ClaimMapViews
import Derived.JoinedTies
import Derived.KernelRfl
namespace Go.Proofs.Ythmijfekdeagpaa
/- THE CELL 'sum', in the pinned program and in every row, IS THE sha256 OF THE DUMP (.gsa) THAT YthmijfekdeagpaaProg.lean LOADS. Nothing in Lean hashes anything: it is a label: what it is worth is what the hold of that sum in a sandbox is worth. -/
noncomputable def Try.pinned : Pinned := { name := "ythmijfekdeagpaa", sum := "b89527912e0ddff554a66f43263432b60a5a3dd85671ea9e93933494437217ee", checked := Try.checked }
namespace Rows
def none {H : Type} : Left H := { results := [], args := [] }

/-- 'laws.FnExactDecide': WHATEVER THE INPUT: true; the input reads as it did. -/
def fnExactDecideSpec : ChangeSpec := { name := "fnExactDecide", fn := fun _ => fun
  | [d] => { results := [.lit (.bool true)], args := [d] }
  | _ => none }
def fnExactDecideRow : OpenClaim := { program := "ythmijfekdeagpaa", sum := "b89527912e0ddff554a66f43263432b60a5a3dd85671ea9e93933494437217ee", func := "loop.example/g00470/laws.FnExactDecide", spec := "fnExactDecide", apart := false }
def FnExactDecideSaid : Prop := fnExactDecideRow.holds Try.pinned (OpenSpec.ofChange fnExactDecideSpec)

/-- ITS FALSE NEIGHBOUR: 'it returns false'. Refute it at one input. -/
def fnExactDecideWrong : ChangeSpec := { name := "fnExactDecide", fn := fun _ => fun
  | [d] => { results := [.lit (.bool false)], args := [d] }
  | _ => none }
def FnExactDecideWrongFalsely : Prop := fnExactDecideRow.holds Try.pinned (OpenSpec.ofChange fnExactDecideWrong)

/-- 'laws.FnExactGate': WHATEVER THE INPUT: true; the input reads as it did. -/
def fnExactGateSpec : ChangeSpec := { name := "fnExactGate", fn := fun _ => fun
  | [d1, d2, d3] => { results := [.lit (.bool true)], args := [d1, d2, d3] }
  | _ => none }
def fnExactGateRow : OpenClaim := { program := "ythmijfekdeagpaa", sum := "b89527912e0ddff554a66f43263432b60a5a3dd85671ea9e93933494437217ee", func := "loop.example/g00470/laws.FnExactGate", spec := "fnExactGate", apart := false }
def FnExactGateSaid : Prop := fnExactGateRow.holds Try.pinned (OpenSpec.ofChange fnExactGateSpec)

/-- ITS FALSE NEIGHBOUR: 'it returns false'. Refute it at one input. -/
def fnExactGateWrong : ChangeSpec := { name := "fnExactGate", fn := fun _ => fun
  | [d1, d2, d3] => { results := [.lit (.bool false)], args := [d1, d2, d3] }
  | _ => none }
def FnExactGateWrongFalsely : Prop := fnExactGateRow.holds Try.pinned (OpenSpec.ofChange fnExactGateWrong)

/-- 'laws.FnLearns': WHATEVER THE INPUT: true; the input reads as it did. -/
def fnLearnsSpec : ChangeSpec := { name := "fnLearns", fn := fun _ => fun
  | [d] => { results := [.lit (.bool true)], args := [d] }
  | _ => none }
def fnLearnsRow : OpenClaim := { program := "ythmijfekdeagpaa", sum := "b89527912e0ddff554a66f43263432b60a5a3dd85671ea9e93933494437217ee", func := "loop.example/g00470/laws.FnLearns", spec := "fnLearns", apart := false }
def FnLearnsSaid : Prop := fnLearnsRow.holds Try.pinned (OpenSpec.ofChange fnLearnsSpec)

/-- ITS FALSE NEIGHBOUR: 'it returns false'. Refute it at one input. -/
def fnLearnsWrong : ChangeSpec := { name := "fnLearns", fn := fun _ => fun
  | [d] => { results := [.lit (.bool false)], args := [d] }
  | _ => none }
def FnLearnsWrongFalsely : Prop := fnLearnsRow.holds Try.pinned (OpenSpec.ofChange fnLearnsWrong)

/-- 'laws.FnRootPorts': WHATEVER THE INPUT: true; the input reads as it did. -/
def fnRootPortsSpec : ChangeSpec := { name := "fnRootPorts", fn := fun _ => fun
  | [d] => { results := [.lit (.bool true)], args := [d] }
  | _ => none }
def fnRootPortsRow : OpenClaim := { program := "ythmijfekdeagpaa", sum := "b89527912e0ddff554a66f43263432b60a5a3dd85671ea9e93933494437217ee", func := "loop.example/g00470/laws.FnRootPorts", spec := "fnRootPorts", apart := false }
def FnRootPortsSaid : Prop := fnRootPortsRow.holds Try.pinned (OpenSpec.ofChange fnRootPortsSpec)

/-- ITS FALSE NEIGHBOUR: 'it returns false'. Refute it at one input. -/
def fnRootPortsWrong : ChangeSpec := { name := "fnRootPorts", fn := fun _ => fun
  | [d] => { results := [.lit (.bool false)], args := [d] }
  | _ => none }
def FnRootPortsWrongFalsely : Prop := fnRootPortsRow.holds Try.pinned (OpenSpec.ofChange fnRootPortsWrong)

/-- 'laws.FnCards': WHATEVER THE INPUT: true; the input reads as it did. -/
def fnCardsSpec : ChangeSpec := { name := "fnCards", fn := fun _ => fun
  | [d] => { results := [.lit (.bool true)], args := [d] }
  | _ => none }
def fnCardsRow : OpenClaim := { program := "ythmijfekdeagpaa", sum := "b89527912e0ddff554a66f43263432b60a5a3dd85671ea9e93933494437217ee", func := "loop.example/g00470/laws.FnCards", spec := "fnCards", apart := false }
def FnCardsSaid : Prop := fnCardsRow.holds Try.pinned (OpenSpec.ofChange fnCardsSpec)

/-- ITS FALSE NEIGHBOUR: 'it returns false'. Refute it at one input. -/
def fnCardsWrong : ChangeSpec := { name := "fnCards", fn := fun _ => fun
  | [d] => { results := [.lit (.bool false)], args := [d] }
  | _ => none }
def FnCardsWrongFalsely : Prop := fnCardsRow.holds Try.pinned (OpenSpec.ofChange fnCardsWrong)

/-- 'laws.FnFades': WHATEVER THE INPUT: true; the input reads as it did. -/
def fnFadesSpec : ChangeSpec := { name := "fnFades", fn := fun _ => fun
  | [d] => { results := [.lit (.bool true)], args := [d] }
  | _ => none }
def fnFadesRow : OpenClaim := { program := "ythmijfekdeagpaa", sum := "b89527912e0ddff554a66f43263432b60a5a3dd85671ea9e93933494437217ee", func := "loop.example/g00470/laws.FnFades", spec := "fnFades", apart := false }
def FnFadesSaid : Prop := fnFadesRow.holds Try.pinned (OpenSpec.ofChange fnFadesSpec)

/-- ITS FALSE NEIGHBOUR: 'it returns false'. Refute it at one input. -/
def fnFadesWrong : ChangeSpec := { name := "fnFades", fn := fun _ => fun
  | [d] => { results := [.lit (.bool false)], args := [d] }
  | _ => none }
def FnFadesWrongFalsely : Prop := fnFadesRow.holds Try.pinned (OpenSpec.ofChange fnFadesWrong)

/-- 'laws.FnWaits': WHATEVER THE INPUT: true; the input reads as it did. -/
def fnWaitsSpec : ChangeSpec := { name := "fnWaits", fn := fun _ => fun
  | [d] => { results := [.lit (.bool true)], args := [d] }
  | _ => none }
def fnWaitsRow : OpenClaim := { program := "ythmijfekdeagpaa", sum := "b89527912e0ddff554a66f43263432b60a5a3dd85671ea9e93933494437217ee", func := "loop.example/g00470/laws.FnWaits", spec := "fnWaits", apart := false }
def FnWaitsSaid : Prop := fnWaitsRow.holds Try.pinned (OpenSpec.ofChange fnWaitsSpec)

/-- ITS FALSE NEIGHBOUR: 'it returns false'. Refute it at one input. -/
def fnWaitsWrong : ChangeSpec := { name := "fnWaits", fn := fun _ => fun
  | [d] => { results := [.lit (.bool false)], args := [d] }
  | _ => none }
def FnWaitsWrongFalsely : Prop := fnWaitsRow.holds Try.pinned (OpenSpec.ofChange fnWaitsWrong)

/-- 'laws.FnExactReact': WHATEVER THE INPUT: true; the input reads as it did. -/
def fnExactReactSpec : ChangeSpec := { name := "fnExactReact", fn := fun _ => fun
  | [d1, d2] => { results := [.lit (.bool true)], args := [d1, d2] }
  | _ => none }
def fnExactReactRow : OpenClaim := { program := "ythmijfekdeagpaa", sum := "b89527912e0ddff554a66f43263432b60a5a3dd85671ea9e93933494437217ee", func := "loop.example/g00470/laws.FnExactReact", spec := "fnExactReact", apart := false }
def FnExactReactSaid : Prop := fnExactReactRow.holds Try.pinned (OpenSpec.ofChange fnExactReactSpec)

/-- ITS FALSE NEIGHBOUR: 'it returns false'. Refute it at one input. -/
def fnExactReactWrong : ChangeSpec := { name := "fnExactReact", fn := fun _ => fun
  | [d1, d2] => { results := [.lit (.bool false)], args := [d1, d2] }
  | _ => none }
def FnExactReactWrongFalsely : Prop := fnExactReactRow.holds Try.pinned (OpenSpec.ofChange fnExactReactWrong)

/-- 'laws.FnExactPass': WHATEVER THE INPUT: true; the input reads as it did. -/
def fnExactPassSpec : ChangeSpec := { name := "fnExactPass", fn := fun _ => fun
  | [d1, d2, d3] => { results := [.lit (.bool true)], args := [d1, d2, d3] }
  | _ => none }
def fnExactPassRow : OpenClaim := { program := "ythmijfekdeagpaa", sum := "b89527912e0ddff554a66f43263432b60a5a3dd85671ea9e93933494437217ee", func := "loop.example/g00470/laws.FnExactPass", spec := "fnExactPass", apart := false }
def FnExactPassSaid : Prop := fnExactPassRow.holds Try.pinned (OpenSpec.ofChange fnExactPassSpec)

/-- ITS FALSE NEIGHBOUR: 'it returns false'. Refute it at one input. -/
def fnExactPassWrong : ChangeSpec := { name := "fnExactPass", fn := fun _ => fun
  | [d1, d2, d3] => { results := [.lit (.bool false)], args := [d1, d2, d3] }
  | _ => none }
def FnExactPassWrongFalsely : Prop := fnExactPassRow.holds Try.pinned (OpenSpec.ofChange fnExactPassWrong)

/- THE SECOND FORM. 'bulk': how many values and letters a reading holds, each counted each time it is reached (what is shared counts as often as it is met; a slice's spare places count too). A statement '..UptoSaid' is the law's where the arguments, and the package variables that the reading takes, are together of bulk at most 1048576: NARROWER than '..Said'. Prove '..Said' where nothing that the law and all that it calls make is longer than what came in: it says more and counts as full. Else prove '..UptoSaid'. A law counts once. -/
mutual
def uptoBulk {H : Type} : DataW H → Nat
  | .lit (.string bytes) => bytes.length + 1
  | .lit _ => 1
  | .nil => 1
  | .ptr d => uptoBulk d + 1
  | .slice elems spare => uptoBulkAll elems + uptoBulkAll spare + 1
  | .agg parts => uptoBulkAll parts + 1
  | .iface _ d => uptoBulk d + 1
  | .map entries => uptoBulkEntries entries + 1
  | .held _ => 1
def uptoBulkAll {H : Type} : List (DataW H) → Nat
  | [] => 0
  | d :: r => uptoBulk d + uptoBulkAll r
def uptoBulkEntries {H : Type} : List (Lit × DataW H) → Nat
  | [] => 0
  | x :: r => uptoBulkEntry x + uptoBulkEntries r
def uptoBulkEntry {H : Type} : Lit × DataW H → Nat
  | (.string bytes, d) => bytes.length + uptoBulk d + 1
  | (_, d) => uptoBulk d + 1
 end
def uptoSmall : (H : Type) → List (DataW H) → Bool := fun _ ds => decide (uptoBulkAll ds ≤ 1048576)
def OpenSpec.upto (s : _root_.Go.ChangeSpec) : _root_.Go.OpenSpec := { _root_.Go.OpenSpec.ofChange s with cond := some uptoSmall }

/-- 'laws.FnExactDecide', WHERE WHAT IT READS IS OF BULK AT MOST 1048576: true; the input reads as it did. -/
def fnExactDecideUptoRow : OpenClaim := { program := "ythmijfekdeagpaa", sum := "b89527912e0ddff554a66f43263432b60a5a3dd85671ea9e93933494437217ee", func := "loop.example/g00470/laws.FnExactDecide", spec := "fnExactDecide", apart := false, narrowed := true }
def FnExactDecideUptoSaid : Prop := fnExactDecideUptoRow.holds Try.pinned (OpenSpec.upto fnExactDecideSpec)

/-- 'laws.FnExactGate', WHERE WHAT IT READS IS OF BULK AT MOST 1048576: true; the input reads as it did. -/
def fnExactGateUptoRow : OpenClaim := { program := "ythmijfekdeagpaa", sum := "b89527912e0ddff554a66f43263432b60a5a3dd85671ea9e93933494437217ee", func := "loop.example/g00470/laws.FnExactGate", spec := "fnExactGate", apart := false, narrowed := true }
def FnExactGateUptoSaid : Prop := fnExactGateUptoRow.holds Try.pinned (OpenSpec.upto fnExactGateSpec)

/-- 'laws.FnLearns', WHERE WHAT IT READS IS OF BULK AT MOST 1048576: true; the input reads as it did. -/
def fnLearnsUptoRow : OpenClaim := { program := "ythmijfekdeagpaa", sum := "b89527912e0ddff554a66f43263432b60a5a3dd85671ea9e93933494437217ee", func := "loop.example/g00470/laws.FnLearns", spec := "fnLearns", apart := false, narrowed := true }
def FnLearnsUptoSaid : Prop := fnLearnsUptoRow.holds Try.pinned (OpenSpec.upto fnLearnsSpec)

/-- 'laws.FnRootPorts', WHERE WHAT IT READS IS OF BULK AT MOST 1048576: true; the input reads as it did. -/
def fnRootPortsUptoRow : OpenClaim := { program := "ythmijfekdeagpaa", sum := "b89527912e0ddff554a66f43263432b60a5a3dd85671ea9e93933494437217ee", func := "loop.example/g00470/laws.FnRootPorts", spec := "fnRootPorts", apart := false, narrowed := true }
def FnRootPortsUptoSaid : Prop := fnRootPortsUptoRow.holds Try.pinned (OpenSpec.upto fnRootPortsSpec)

/-- 'laws.FnCards', WHERE WHAT IT READS IS OF BULK AT MOST 1048576: true; the input reads as it did. -/
def fnCardsUptoRow : OpenClaim := { program := "ythmijfekdeagpaa", sum := "b89527912e0ddff554a66f43263432b60a5a3dd85671ea9e93933494437217ee", func := "loop.example/g00470/laws.FnCards", spec := "fnCards", apart := false, narrowed := true }
def FnCardsUptoSaid : Prop := fnCardsUptoRow.holds Try.pinned (OpenSpec.upto fnCardsSpec)

/-- 'laws.FnFades', WHERE WHAT IT READS IS OF BULK AT MOST 1048576: true; the input reads as it did. -/
def fnFadesUptoRow : OpenClaim := { program := "ythmijfekdeagpaa", sum := "b89527912e0ddff554a66f43263432b60a5a3dd85671ea9e93933494437217ee", func := "loop.example/g00470/laws.FnFades", spec := "fnFades", apart := false, narrowed := true }
def FnFadesUptoSaid : Prop := fnFadesUptoRow.holds Try.pinned (OpenSpec.upto fnFadesSpec)

/-- 'laws.FnWaits', WHERE WHAT IT READS IS OF BULK AT MOST 1048576: true; the input reads as it did. -/
def fnWaitsUptoRow : OpenClaim := { program := "ythmijfekdeagpaa", sum := "b89527912e0ddff554a66f43263432b60a5a3dd85671ea9e93933494437217ee", func := "loop.example/g00470/laws.FnWaits", spec := "fnWaits", apart := false, narrowed := true }
def FnWaitsUptoSaid : Prop := fnWaitsUptoRow.holds Try.pinned (OpenSpec.upto fnWaitsSpec)

/-- 'laws.FnExactReact', WHERE WHAT IT READS IS OF BULK AT MOST 1048576: true; the input reads as it did. -/
def fnExactReactUptoRow : OpenClaim := { program := "ythmijfekdeagpaa", sum := "b89527912e0ddff554a66f43263432b60a5a3dd85671ea9e93933494437217ee", func := "loop.example/g00470/laws.FnExactReact", spec := "fnExactReact", apart := false, narrowed := true }
def FnExactReactUptoSaid : Prop := fnExactReactUptoRow.holds Try.pinned (OpenSpec.upto fnExactReactSpec)

/-- 'laws.FnExactPass', WHERE WHAT IT READS IS OF BULK AT MOST 1048576: true; the input reads as it did. -/
def fnExactPassUptoRow : OpenClaim := { program := "ythmijfekdeagpaa", sum := "b89527912e0ddff554a66f43263432b60a5a3dd85671ea9e93933494437217ee", func := "loop.example/g00470/laws.FnExactPass", spec := "fnExactPass", apart := false, narrowed := true }
def FnExactPassUptoSaid : Prop := fnExactPassUptoRow.holds Try.pinned (OpenSpec.upto fnExactPassSpec)

end Rows
end Go.Proofs.Ythmijfekdeagpaa
