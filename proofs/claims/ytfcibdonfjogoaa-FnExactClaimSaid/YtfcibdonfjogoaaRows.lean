/-
  No cell of these rows narrows 'for every input' (looked for: loops, veiled, ifaces, maps, wideKeys, modest, calm, conditions, laid).
  DERIVED. THE GIVEN ROWS OF THIS SEAT. 12 by the template 'for every input the law returns true; each argument reads behind the call as it read before'; 0 by the template 'total and deterministic' (their statements: YtfcibdonfjogoaaTotals.lean).
  GIVEN WITH THE SEED: the statements are not yours to turn. If you find one false, say at which input.
  Laid BY PROGRAM, IN A SANDBOX (cutbox-rows.mjs): the forced cells as the released guide's own fill.sh prints them over the translation 8b45d3e85e7244de… (all of the seat's roots in one cut). By AI agents, Wed Nov 11 2026. No macro, syntax, notation, axiom, sorry.
-/
import Derived.Test.YtfcibdonfjogoaaChecked
import GoSem.Claim
import GoSem.ClaimJoined
import GoSem.ClaimMapViews
import Derived.JoinedTies
import Derived.KernelRfl
namespace Go.Proofs.Ytfcibdonfjogoaa
/- THE CELL 'sum', in the pinned program and in every row, IS THE sha256 OF THE DUMP (.gsa) THAT YtfcibdonfjogoaaProg.lean LOADS. Nothing in Lean hashes anything: it is a label: what it is worth is what the hold of that sum in a sandbox is worth. -/
noncomputable def Try.pinned : Pinned := { name := "ytfcibdonfjogoaa", sum := "8b45d3e85e7244de8cc933779168f7c64631513870ff6ff81e2ea6892c6a425b", checked := Try.checked }
namespace Rows
def none {H : Type} : Left H := { results := [], args := [] }

/-- 'laws.FnExactTableOk': WHATEVER THE INPUT: true; the input reads as it did. -/
def fnExactTableOkSpec : ChangeSpec := { name := "fnExactTableOk", fn := fun _ => fun
  | [d] => { results := [.lit (.bool true)], args := [d] }
  | _ => none }
def fnExactTableOkRow : OpenClaim := { program := "ytfcibdonfjogoaa", sum := "8b45d3e85e7244de8cc933779168f7c64631513870ff6ff81e2ea6892c6a425b", func := "loop.example/g00470/laws.FnExactTableOk", spec := "fnExactTableOk", apart := false }
def FnExactTableOkSaid : Prop := fnExactTableOkRow.holds Try.pinned (OpenSpec.ofChange fnExactTableOkSpec)

/-- ITS FALSE NEIGHBOUR: 'it returns false'. Refute it at one input. -/
def fnExactTableOkWrong : ChangeSpec := { name := "fnExactTableOk", fn := fun _ => fun
  | [d] => { results := [.lit (.bool false)], args := [d] }
  | _ => none }
def FnExactTableOkWrongFalsely : Prop := fnExactTableOkRow.holds Try.pinned (OpenSpec.ofChange fnExactTableOkWrong)

/-- 'laws.FnExactMemberOk': WHATEVER THE INPUT: true; the input reads as it did. -/
def fnExactMemberOkSpec : ChangeSpec := { name := "fnExactMemberOk", fn := fun _ => fun
  | [d] => { results := [.lit (.bool true)], args := [d] }
  | _ => none }
def fnExactMemberOkRow : OpenClaim := { program := "ytfcibdonfjogoaa", sum := "8b45d3e85e7244de8cc933779168f7c64631513870ff6ff81e2ea6892c6a425b", func := "loop.example/g00470/laws.FnExactMemberOk", spec := "fnExactMemberOk", apart := false }
def FnExactMemberOkSaid : Prop := fnExactMemberOkRow.holds Try.pinned (OpenSpec.ofChange fnExactMemberOkSpec)

/-- ITS FALSE NEIGHBOUR: 'it returns false'. Refute it at one input. -/
def fnExactMemberOkWrong : ChangeSpec := { name := "fnExactMemberOk", fn := fun _ => fun
  | [d] => { results := [.lit (.bool false)], args := [d] }
  | _ => none }
def FnExactMemberOkWrongFalsely : Prop := fnExactMemberOkRow.holds Try.pinned (OpenSpec.ofChange fnExactMemberOkWrong)

/-- 'laws.FnExactForget': WHATEVER THE INPUT: true; the input reads as it did. -/
def fnExactForgetSpec : ChangeSpec := { name := "fnExactForget", fn := fun _ => fun
  | [d1, d2] => { results := [.lit (.bool true)], args := [d1, d2] }
  | _ => none }
def fnExactForgetRow : OpenClaim := { program := "ytfcibdonfjogoaa", sum := "8b45d3e85e7244de8cc933779168f7c64631513870ff6ff81e2ea6892c6a425b", func := "loop.example/g00470/laws.FnExactForget", spec := "fnExactForget", apart := false }
def FnExactForgetSaid : Prop := fnExactForgetRow.holds Try.pinned (OpenSpec.ofChange fnExactForgetSpec)

/-- ITS FALSE NEIGHBOUR: 'it returns false'. Refute it at one input. -/
def fnExactForgetWrong : ChangeSpec := { name := "fnExactForget", fn := fun _ => fun
  | [d1, d2] => { results := [.lit (.bool false)], args := [d1, d2] }
  | _ => none }
def FnExactForgetWrongFalsely : Prop := fnExactForgetRow.holds Try.pinned (OpenSpec.ofChange fnExactForgetWrong)

/-- 'laws.FnExactAge': WHATEVER THE INPUT: true; the input reads as it did. -/
def fnExactAgeSpec : ChangeSpec := { name := "fnExactAge", fn := fun _ => fun
  | [d] => { results := [.lit (.bool true)], args := [d] }
  | _ => none }
def fnExactAgeRow : OpenClaim := { program := "ytfcibdonfjogoaa", sum := "8b45d3e85e7244de8cc933779168f7c64631513870ff6ff81e2ea6892c6a425b", func := "loop.example/g00470/laws.FnExactAge", spec := "fnExactAge", apart := false }
def FnExactAgeSaid : Prop := fnExactAgeRow.holds Try.pinned (OpenSpec.ofChange fnExactAgeSpec)

/-- ITS FALSE NEIGHBOUR: 'it returns false'. Refute it at one input. -/
def fnExactAgeWrong : ChangeSpec := { name := "fnExactAge", fn := fun _ => fun
  | [d] => { results := [.lit (.bool false)], args := [d] }
  | _ => none }
def FnExactAgeWrongFalsely : Prop := fnExactAgeRow.holds Try.pinned (OpenSpec.ofChange fnExactAgeWrong)

/-- 'laws.FnExactFade': WHATEVER THE INPUT: true; the input reads as it did. -/
def fnExactFadeSpec : ChangeSpec := { name := "fnExactFade", fn := fun _ => fun
  | [d] => { results := [.lit (.bool true)], args := [d] }
  | _ => none }
def fnExactFadeRow : OpenClaim := { program := "ytfcibdonfjogoaa", sum := "8b45d3e85e7244de8cc933779168f7c64631513870ff6ff81e2ea6892c6a425b", func := "loop.example/g00470/laws.FnExactFade", spec := "fnExactFade", apart := false }
def FnExactFadeSaid : Prop := fnExactFadeRow.holds Try.pinned (OpenSpec.ofChange fnExactFadeSpec)

/-- ITS FALSE NEIGHBOUR: 'it returns false'. Refute it at one input. -/
def fnExactFadeWrong : ChangeSpec := { name := "fnExactFade", fn := fun _ => fun
  | [d] => { results := [.lit (.bool false)], args := [d] }
  | _ => none }
def FnExactFadeWrongFalsely : Prop := fnExactFadeRow.holds Try.pinned (OpenSpec.ofChange fnExactFadeWrong)

/-- 'laws.FnExactTurn': WHATEVER THE INPUT: true; the input reads as it did. -/
def fnExactTurnSpec : ChangeSpec := { name := "fnExactTurn", fn := fun _ => fun
  | [d1, d2] => { results := [.lit (.bool true)], args := [d1, d2] }
  | _ => none }
def fnExactTurnRow : OpenClaim := { program := "ytfcibdonfjogoaa", sum := "8b45d3e85e7244de8cc933779168f7c64631513870ff6ff81e2ea6892c6a425b", func := "loop.example/g00470/laws.FnExactTurn", spec := "fnExactTurn", apart := false }
def FnExactTurnSaid : Prop := fnExactTurnRow.holds Try.pinned (OpenSpec.ofChange fnExactTurnSpec)

/-- ITS FALSE NEIGHBOUR: 'it returns false'. Refute it at one input. -/
def fnExactTurnWrong : ChangeSpec := { name := "fnExactTurn", fn := fun _ => fun
  | [d1, d2] => { results := [.lit (.bool false)], args := [d1, d2] }
  | _ => none }
def FnExactTurnWrongFalsely : Prop := fnExactTurnRow.holds Try.pinned (OpenSpec.ofChange fnExactTurnWrong)

/-- 'laws.FnExactFrameBytes': WHATEVER THE INPUT: true; the input reads as it did. -/
def fnExactFrameBytesSpec : ChangeSpec := { name := "fnExactFrameBytes", fn := fun _ => fun
  | [d] => { results := [.lit (.bool true)], args := [d] }
  | _ => none }
def fnExactFrameBytesRow : OpenClaim := { program := "ytfcibdonfjogoaa", sum := "8b45d3e85e7244de8cc933779168f7c64631513870ff6ff81e2ea6892c6a425b", func := "loop.example/g00470/laws.FnExactFrameBytes", spec := "fnExactFrameBytes", apart := false }
def FnExactFrameBytesSaid : Prop := fnExactFrameBytesRow.holds Try.pinned (OpenSpec.ofChange fnExactFrameBytesSpec)

/-- ITS FALSE NEIGHBOUR: 'it returns false'. Refute it at one input. -/
def fnExactFrameBytesWrong : ChangeSpec := { name := "fnExactFrameBytes", fn := fun _ => fun
  | [d] => { results := [.lit (.bool false)], args := [d] }
  | _ => none }
def FnExactFrameBytesWrongFalsely : Prop := fnExactFrameBytesRow.holds Try.pinned (OpenSpec.ofChange fnExactFrameBytesWrong)

/-- 'laws.FnOldest': WHATEVER THE INPUT: true; the input reads as it did. -/
def fnOldestSpec : ChangeSpec := { name := "fnOldest", fn := fun _ => fun
  | [d] => { results := [.lit (.bool true)], args := [d] }
  | _ => none }
def fnOldestRow : OpenClaim := { program := "ytfcibdonfjogoaa", sum := "8b45d3e85e7244de8cc933779168f7c64631513870ff6ff81e2ea6892c6a425b", func := "loop.example/g00470/laws.FnOldest", spec := "fnOldest", apart := false }
def FnOldestSaid : Prop := fnOldestRow.holds Try.pinned (OpenSpec.ofChange fnOldestSpec)

/-- ITS FALSE NEIGHBOUR: 'it returns false'. Refute it at one input. -/
def fnOldestWrong : ChangeSpec := { name := "fnOldest", fn := fun _ => fun
  | [d] => { results := [.lit (.bool false)], args := [d] }
  | _ => none }
def FnOldestWrongFalsely : Prop := fnOldestRow.holds Try.pinned (OpenSpec.ofChange fnOldestWrong)

/-- 'laws.FnExactBridgeOk': WHATEVER THE INPUT: true; the input reads as it did. -/
def fnExactBridgeOkSpec : ChangeSpec := { name := "fnExactBridgeOk", fn := fun _ => fun
  | [d] => { results := [.lit (.bool true)], args := [d] }
  | _ => none }
def fnExactBridgeOkRow : OpenClaim := { program := "ytfcibdonfjogoaa", sum := "8b45d3e85e7244de8cc933779168f7c64631513870ff6ff81e2ea6892c6a425b", func := "loop.example/g00470/laws.FnExactBridgeOk", spec := "fnExactBridgeOk", apart := false }
def FnExactBridgeOkSaid : Prop := fnExactBridgeOkRow.holds Try.pinned (OpenSpec.ofChange fnExactBridgeOkSpec)

/-- ITS FALSE NEIGHBOUR: 'it returns false'. Refute it at one input. -/
def fnExactBridgeOkWrong : ChangeSpec := { name := "fnExactBridgeOk", fn := fun _ => fun
  | [d] => { results := [.lit (.bool false)], args := [d] }
  | _ => none }
def FnExactBridgeOkWrongFalsely : Prop := fnExactBridgeOkRow.holds Try.pinned (OpenSpec.ofChange fnExactBridgeOkWrong)

/-- 'laws.FnExactClaim': WHATEVER THE INPUT: true; the input reads as it did. -/
def fnExactClaimSpec : ChangeSpec := { name := "fnExactClaim", fn := fun _ => fun
  | [d1, d2, d3] => { results := [.lit (.bool true)], args := [d1, d2, d3] }
  | _ => none }
def fnExactClaimRow : OpenClaim := { program := "ytfcibdonfjogoaa", sum := "8b45d3e85e7244de8cc933779168f7c64631513870ff6ff81e2ea6892c6a425b", func := "loop.example/g00470/laws.FnExactClaim", spec := "fnExactClaim", apart := false }
def FnExactClaimSaid : Prop := fnExactClaimRow.holds Try.pinned (OpenSpec.ofChange fnExactClaimSpec)

/-- ITS FALSE NEIGHBOUR: 'it returns false'. Refute it at one input. -/
def fnExactClaimWrong : ChangeSpec := { name := "fnExactClaim", fn := fun _ => fun
  | [d1, d2, d3] => { results := [.lit (.bool false)], args := [d1, d2, d3] }
  | _ => none }
def FnExactClaimWrongFalsely : Prop := fnExactClaimRow.holds Try.pinned (OpenSpec.ofChange fnExactClaimWrong)

/-- 'laws.FnExactInBytes': WHATEVER THE INPUT: true; the input reads as it did. -/
def fnExactInBytesSpec : ChangeSpec := { name := "fnExactInBytes", fn := fun _ => fun
  | [d] => { results := [.lit (.bool true)], args := [d] }
  | _ => none }
def fnExactInBytesRow : OpenClaim := { program := "ytfcibdonfjogoaa", sum := "8b45d3e85e7244de8cc933779168f7c64631513870ff6ff81e2ea6892c6a425b", func := "loop.example/g00470/laws.FnExactInBytes", spec := "fnExactInBytes", apart := false }
def FnExactInBytesSaid : Prop := fnExactInBytesRow.holds Try.pinned (OpenSpec.ofChange fnExactInBytesSpec)

/-- ITS FALSE NEIGHBOUR: 'it returns false'. Refute it at one input. -/
def fnExactInBytesWrong : ChangeSpec := { name := "fnExactInBytes", fn := fun _ => fun
  | [d] => { results := [.lit (.bool false)], args := [d] }
  | _ => none }
def FnExactInBytesWrongFalsely : Prop := fnExactInBytesRow.holds Try.pinned (OpenSpec.ofChange fnExactInBytesWrong)

/-- 'laws.FnExactBridgeNew': WHATEVER THE INPUT: true; the input reads as it did. -/
def fnExactBridgeNewSpec : ChangeSpec := { name := "fnExactBridgeNew", fn := fun _ => fun
  | [d1, d2] => { results := [.lit (.bool true)], args := [d1, d2] }
  | _ => none }
def fnExactBridgeNewRow : OpenClaim := { program := "ytfcibdonfjogoaa", sum := "8b45d3e85e7244de8cc933779168f7c64631513870ff6ff81e2ea6892c6a425b", func := "loop.example/g00470/laws.FnExactBridgeNew", spec := "fnExactBridgeNew", apart := false }
def FnExactBridgeNewSaid : Prop := fnExactBridgeNewRow.holds Try.pinned (OpenSpec.ofChange fnExactBridgeNewSpec)

/-- ITS FALSE NEIGHBOUR: 'it returns false'. Refute it at one input. -/
def fnExactBridgeNewWrong : ChangeSpec := { name := "fnExactBridgeNew", fn := fun _ => fun
  | [d1, d2] => { results := [.lit (.bool false)], args := [d1, d2] }
  | _ => none }
def FnExactBridgeNewWrongFalsely : Prop := fnExactBridgeNewRow.holds Try.pinned (OpenSpec.ofChange fnExactBridgeNewWrong)

/- THE SECOND FORM. 'bulk': how many values and letters a reading holds, each counted each time it is reached (what is shared counts as often as it is met; a slice's spare places count too). A statement '..UptoSaid' is the law's where the arguments, and the package variables that the reading takes, are together of bulk at most 1048576: NARROWER than '..Said'. Prove '..Said' where nothing that the law and all that it calls make is longer than what came in: it says more and counts as full. Else prove '..UptoSaid'. A law counts once. -/
mutual
def uptoBulk {H : Type} : DataW H → Nat
  | .lit (.string bytes) => bytes.length + 1
  | .lit _ => 1
  | .nil => 1
  | .ptr d => uptoBulk d + 1
  | .slice elems spare => uptoBulkAll elems + uptoBulkAll spare + 1
  | .agg parts => uptoBulkAll parts + 1
  | .iface _ d => uptoBulk d + 1
  | .map entries => uptoBulkEntries entries + 1
  | .held _ => 1
def uptoBulkAll {H : Type} : List (DataW H) → Nat
  | [] => 0
  | d :: r => uptoBulk d + uptoBulkAll r
def uptoBulkEntries {H : Type} : List (Lit × DataW H) → Nat
  | [] => 0
  | x :: r => uptoBulkEntry x + uptoBulkEntries r
def uptoBulkEntry {H : Type} : Lit × DataW H → Nat
  | (.string bytes, d) => bytes.length + uptoBulk d + 1
  | (_, d) => uptoBulk d + 1
 end
def uptoSmall : (H : Type) → List (DataW H) → Bool := fun _ ds => decide (uptoBulkAll ds ≤ 1048576)
def OpenSpec.upto (s : _root_.Go.ChangeSpec) : _root_.Go.OpenSpec := { _root_.Go.OpenSpec.ofChange s with cond := some uptoSmall }

/-- 'laws.FnExactTableOk', WHERE WHAT IT READS IS OF BULK AT MOST 1048576: true; the input reads as it did. -/
def fnExactTableOkUptoRow : OpenClaim := { program := "ytfcibdonfjogoaa", sum := "8b45d3e85e7244de8cc933779168f7c64631513870ff6ff81e2ea6892c6a425b", func := "loop.example/g00470/laws.FnExactTableOk", spec := "fnExactTableOk", apart := false, narrowed := true }
def FnExactTableOkUptoSaid : Prop := fnExactTableOkUptoRow.holds Try.pinned (OpenSpec.upto fnExactTableOkSpec)

/-- 'laws.FnExactMemberOk', WHERE WHAT IT READS IS OF BULK AT MOST 1048576: true; the input reads as it did. -/
def fnExactMemberOkUptoRow : OpenClaim := { program := "ytfcibdonfjogoaa", sum := "8b45d3e85e7244de8cc933779168f7c64631513870ff6ff81e2ea6892c6a425b", func := "loop.example/g00470/laws.FnExactMemberOk", spec := "fnExactMemberOk", apart := false, narrowed := true }
def FnExactMemberOkUptoSaid : Prop := fnExactMemberOkUptoRow.holds Try.pinned (OpenSpec.upto fnExactMemberOkSpec)

/-- 'laws.FnExactForget', WHERE WHAT IT READS IS OF BULK AT MOST 1048576: true; the input reads as it did. -/
def fnExactForgetUptoRow : OpenClaim := { program := "ytfcibdonfjogoaa", sum := "8b45d3e85e7244de8cc933779168f7c64631513870ff6ff81e2ea6892c6a425b", func := "loop.example/g00470/laws.FnExactForget", spec := "fnExactForget", apart := false, narrowed := true }
def FnExactForgetUptoSaid : Prop := fnExactForgetUptoRow.holds Try.pinned (OpenSpec.upto fnExactForgetSpec)

/-- 'laws.FnExactAge', WHERE WHAT IT READS IS OF BULK AT MOST 1048576: true; the input reads as it did. -/
def fnExactAgeUptoRow : OpenClaim := { program := "ytfcibdonfjogoaa", sum := "8b45d3e85e7244de8cc933779168f7c64631513870ff6ff81e2ea6892c6a425b", func := "loop.example/g00470/laws.FnExactAge", spec := "fnExactAge", apart := false, narrowed := true }
def FnExactAgeUptoSaid : Prop := fnExactAgeUptoRow.holds Try.pinned (OpenSpec.upto fnExactAgeSpec)

/-- 'laws.FnExactFade', WHERE WHAT IT READS IS OF BULK AT MOST 1048576: true; the input reads as it did. -/
def fnExactFadeUptoRow : OpenClaim := { program := "ytfcibdonfjogoaa", sum := "8b45d3e85e7244de8cc933779168f7c64631513870ff6ff81e2ea6892c6a425b", func := "loop.example/g00470/laws.FnExactFade", spec := "fnExactFade", apart := false, narrowed := true }
def FnExactFadeUptoSaid : Prop := fnExactFadeUptoRow.holds Try.pinned (OpenSpec.upto fnExactFadeSpec)

/-- 'laws.FnExactTurn', WHERE WHAT IT READS IS OF BULK AT MOST 1048576: true; the input reads as it did. -/
def fnExactTurnUptoRow : OpenClaim := { program := "ytfcibdonfjogoaa", sum := "8b45d3e85e7244de8cc933779168f7c64631513870ff6ff81e2ea6892c6a425b", func := "loop.example/g00470/laws.FnExactTurn", spec := "fnExactTurn", apart := false, narrowed := true }
def FnExactTurnUptoSaid : Prop := fnExactTurnUptoRow.holds Try.pinned (OpenSpec.upto fnExactTurnSpec)

/-- 'laws.FnExactFrameBytes', WHERE WHAT IT READS IS OF BULK AT MOST 1048576: true; the input reads as it did. -/
def fnExactFrameBytesUptoRow : OpenClaim := { program := "ytfcibdonfjogoaa", sum := "8b45d3e85e7244de8cc933779168f7c64631513870ff6ff81e2ea6892c6a425b", func := "loop.example/g00470/laws.FnExactFrameBytes", spec := "fnExactFrameBytes", apart := false, narrowed := true }
def FnExactFrameBytesUptoSaid : Prop := fnExactFrameBytesUptoRow.holds Try.pinned (OpenSpec.upto fnExactFrameBytesSpec)

/-- 'laws.FnOldest', WHERE WHAT IT READS IS OF BULK AT MOST 1048576: true; the input reads as it did. -/
def fnOldestUptoRow : OpenClaim := { program := "ytfcibdonfjogoaa", sum := "8b45d3e85e7244de8cc933779168f7c64631513870ff6ff81e2ea6892c6a425b", func := "loop.example/g00470/laws.FnOldest", spec := "fnOldest", apart := false, narrowed := true }
def FnOldestUptoSaid : Prop := fnOldestUptoRow.holds Try.pinned (OpenSpec.upto fnOldestSpec)

/-- 'laws.FnExactBridgeOk', WHERE WHAT IT READS IS OF BULK AT MOST 1048576: true; the input reads as it did. -/
def fnExactBridgeOkUptoRow : OpenClaim := { program := "ytfcibdonfjogoaa", sum := "8b45d3e85e7244de8cc933779168f7c64631513870ff6ff81e2ea6892c6a425b", func := "loop.example/g00470/laws.FnExactBridgeOk", spec := "fnExactBridgeOk", apart := false, narrowed := true }
def FnExactBridgeOkUptoSaid : Prop := fnExactBridgeOkUptoRow.holds Try.pinned (OpenSpec.upto fnExactBridgeOkSpec)

/-- 'laws.FnExactClaim', WHERE WHAT IT READS IS OF BULK AT MOST 1048576: true; the input reads as it did. -/
def fnExactClaimUptoRow : OpenClaim := { program := "ytfcibdonfjogoaa", sum := "8b45d3e85e7244de8cc933779168f7c64631513870ff6ff81e2ea6892c6a425b", func := "loop.example/g00470/laws.FnExactClaim", spec := "fnExactClaim", apart := false, narrowed := true }
def FnExactClaimUptoSaid : Prop := fnExactClaimUptoRow.holds Try.pinned (OpenSpec.upto fnExactClaimSpec)

/-- 'laws.FnExactInBytes', WHERE WHAT IT READS IS OF BULK AT MOST 1048576: true; the input reads as it did. -/
def fnExactInBytesUptoRow : OpenClaim := { program := "ytfcibdonfjogoaa", sum := "8b45d3e85e7244de8cc933779168f7c64631513870ff6ff81e2ea6892c6a425b", func := "loop.example/g00470/laws.FnExactInBytes", spec := "fnExactInBytes", apart := false, narrowed := true }
def FnExactInBytesUptoSaid : Prop := fnExactInBytesUptoRow.holds Try.pinned (OpenSpec.upto fnExactInBytesSpec)

/-- 'laws.FnExactBridgeNew', WHERE WHAT IT READS IS OF BULK AT MOST 1048576: true; the input reads as it did. -/
def fnExactBridgeNewUptoRow : OpenClaim := { program := "ytfcibdonfjogoaa", sum := "8b45d3e85e7244de8cc933779168f7c64631513870ff6ff81e2ea6892c6a425b", func := "loop.example/g00470/laws.FnExactBridgeNew", spec := "fnExactBridgeNew", apart := false, narrowed := true }
def FnExactBridgeNewUptoSaid : Prop := fnExactBridgeNewUptoRow.holds Try.pinned (OpenSpec.upto fnExactBridgeNewSpec)

end Rows
end Go.Proofs.Ytfcibdonfjogoaa
