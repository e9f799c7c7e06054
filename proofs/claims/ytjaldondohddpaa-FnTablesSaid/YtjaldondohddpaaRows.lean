/-
  No cell of these rows narrows 'for every input' (looked for: loops, veiled, ifaces, maps, wideKeys, modest, calm, conditions, laid).
  DERIVED. THE GIVEN ROWS OF THIS SEAT. 8 by the template 'for every input the law returns true; each argument reads behind the call as it read before'; 0 by the template 'total and deterministic' (their statements: YtjaldondohddpaaTotals.lean).
  GIVEN WITH THE SEED: the statements are not yours to turn. If you find one false, say at which input.
  Laid BY PROGRAM, IN A SANDBOX (cutbox-rows.mjs): the forced cells as the released guide's own fill.sh prints them over the translation 4b85523d3fa9e117… (all of the seat's roots in one cut). By AI agents, Wed Nov 11 2026. No macro, syntax, notation, axiom, sorry.
-/
import Derived.Test.YtjaldondohddpaaChecked
import GoSem.Claim
import GoSem.ClaimJoined
import GoSem.ClaimMapViews
import Derived.JoinedTies
import Derived.KernelRfl
namespace Go.Proofs.Ytjaldondohddpaa
/- THE CELL 'sum', in the pinned program and in every row, IS THE sha256 OF THE DUMP (.gsa) THAT YtjaldondohddpaaProg.lean LOADS. Nothing in Lean hashes anything: it is a label: what it is worth is what the hold of that sum in a sandbox is worth. -/
noncomputable def Try.pinned : Pinned := { name := "ytjaldondohddpaa", sum := "4b85523d3fa9e1176aee81cd4cdf689a826031ee85c7f3344b89276ff2af0ad7", checked := Try.checked }
namespace Rows
def none {H : Type} : Left H := { results := [], args := [] }

/-- 'laws.FnTables': WHATEVER THE INPUT: true; the input reads as it did. -/
def fnTablesSpec : ChangeSpec := { name := "fnTables", fn := fun _ => fun
  | [d] => { results := [.lit (.bool true)], args := [d] }
  | _ => none }
def fnTablesRow : OpenClaim := { program := "ytjaldondohddpaa", sum := "4b85523d3fa9e1176aee81cd4cdf689a826031ee85c7f3344b89276ff2af0ad7", func := "loop.example/g00470/laws.FnTables", spec := "fnTables", apart := false }
def FnTablesSaid : Prop := fnTablesRow.holds Try.pinned (OpenSpec.ofChange fnTablesSpec)

/-- ITS FALSE NEIGHBOUR: 'it returns false'. Refute it at one input. -/
def fnTablesWrong : ChangeSpec := { name := "fnTables", fn := fun _ => fun
  | [d] => { results := [.lit (.bool false)], args := [d] }
  | _ => none }
def FnTablesWrongFalsely : Prop := fnTablesRow.holds Try.pinned (OpenSpec.ofChange fnTablesWrong)

/-- 'laws.FnPorts': WHATEVER THE INPUT: true; the input reads as it did. -/
def fnPortsSpec : ChangeSpec := { name := "fnPorts", fn := fun _ => fun
  | [d] => { results := [.lit (.bool true)], args := [d] }
  | _ => none }
def fnPortsRow : OpenClaim := { program := "ytjaldondohddpaa", sum := "4b85523d3fa9e1176aee81cd4cdf689a826031ee85c7f3344b89276ff2af0ad7", func := "loop.example/g00470/laws.FnPorts", spec := "fnPorts", apart := false }
def FnPortsSaid : Prop := fnPortsRow.holds Try.pinned (OpenSpec.ofChange fnPortsSpec)

/-- ITS FALSE NEIGHBOUR: 'it returns false'. Refute it at one input. -/
def fnPortsWrong : ChangeSpec := { name := "fnPorts", fn := fun _ => fun
  | [d] => { results := [.lit (.bool false)], args := [d] }
  | _ => none }
def FnPortsWrongFalsely : Prop := fnPortsRow.holds Try.pinned (OpenSpec.ofChange fnPortsWrong)

/-- 'laws.FnExactAllBytes': WHATEVER THE INPUT: true; the input reads as it did. -/
def fnExactAllBytesSpec : ChangeSpec := { name := "fnExactAllBytes", fn := fun _ => fun
  | [d] => { results := [.lit (.bool true)], args := [d] }
  | _ => none }
def fnExactAllBytesRow : OpenClaim := { program := "ytjaldondohddpaa", sum := "4b85523d3fa9e1176aee81cd4cdf689a826031ee85c7f3344b89276ff2af0ad7", func := "loop.example/g00470/laws.FnExactAllBytes", spec := "fnExactAllBytes", apart := false }
def FnExactAllBytesSaid : Prop := fnExactAllBytesRow.holds Try.pinned (OpenSpec.ofChange fnExactAllBytesSpec)

/-- ITS FALSE NEIGHBOUR: 'it returns false'. Refute it at one input. -/
def fnExactAllBytesWrong : ChangeSpec := { name := "fnExactAllBytes", fn := fun _ => fun
  | [d] => { results := [.lit (.bool false)], args := [d] }
  | _ => none }
def FnExactAllBytesWrongFalsely : Prop := fnExactAllBytesRow.holds Try.pinned (OpenSpec.ofChange fnExactAllBytesWrong)

/-- 'laws.FnExactCardOk': WHATEVER THE INPUT: true; the input reads as it did. -/
def fnExactCardOkSpec : ChangeSpec := { name := "fnExactCardOk", fn := fun _ => fun
  | [d] => { results := [.lit (.bool true)], args := [d] }
  | _ => none }
def fnExactCardOkRow : OpenClaim := { program := "ytjaldondohddpaa", sum := "4b85523d3fa9e1176aee81cd4cdf689a826031ee85c7f3344b89276ff2af0ad7", func := "loop.example/g00470/laws.FnExactCardOk", spec := "fnExactCardOk", apart := false }
def FnExactCardOkSaid : Prop := fnExactCardOkRow.holds Try.pinned (OpenSpec.ofChange fnExactCardOkSpec)

/-- ITS FALSE NEIGHBOUR: 'it returns false'. Refute it at one input. -/
def fnExactCardOkWrong : ChangeSpec := { name := "fnExactCardOk", fn := fun _ => fun
  | [d] => { results := [.lit (.bool false)], args := [d] }
  | _ => none }
def FnExactCardOkWrongFalsely : Prop := fnExactCardOkRow.holds Try.pinned (OpenSpec.ofChange fnExactCardOkWrong)

/-- 'laws.FnFlushed': WHATEVER THE INPUT: true; the input reads as it did. -/
def fnFlushedSpec : ChangeSpec := { name := "fnFlushed", fn := fun _ => fun
  | [d] => { results := [.lit (.bool true)], args := [d] }
  | _ => none }
def fnFlushedRow : OpenClaim := { program := "ytjaldondohddpaa", sum := "4b85523d3fa9e1176aee81cd4cdf689a826031ee85c7f3344b89276ff2af0ad7", func := "loop.example/g00470/laws.FnFlushed", spec := "fnFlushed", apart := false }
def FnFlushedSaid : Prop := fnFlushedRow.holds Try.pinned (OpenSpec.ofChange fnFlushedSpec)

/-- ITS FALSE NEIGHBOUR: 'it returns false'. Refute it at one input. -/
def fnFlushedWrong : ChangeSpec := { name := "fnFlushed", fn := fun _ => fun
  | [d] => { results := [.lit (.bool false)], args := [d] }
  | _ => none }
def FnFlushedWrongFalsely : Prop := fnFlushedRow.holds Try.pinned (OpenSpec.ofChange fnFlushedWrong)

/-- 'laws.FnExactInOf': WHATEVER THE INPUT: true; the input reads as it did. -/
def fnExactInOfSpec : ChangeSpec := { name := "fnExactInOf", fn := fun _ => fun
  | [d1, d2] => { results := [.lit (.bool true)], args := [d1, d2] }
  | _ => none }
def fnExactInOfRow : OpenClaim := { program := "ytjaldondohddpaa", sum := "4b85523d3fa9e1176aee81cd4cdf689a826031ee85c7f3344b89276ff2af0ad7", func := "loop.example/g00470/laws.FnExactInOf", spec := "fnExactInOf", apart := false }
def FnExactInOfSaid : Prop := fnExactInOfRow.holds Try.pinned (OpenSpec.ofChange fnExactInOfSpec)

/-- ITS FALSE NEIGHBOUR: 'it returns false'. Refute it at one input. -/
def fnExactInOfWrong : ChangeSpec := { name := "fnExactInOf", fn := fun _ => fun
  | [d1, d2] => { results := [.lit (.bool false)], args := [d1, d2] }
  | _ => none }
def FnExactInOfWrongFalsely : Prop := fnExactInOfRow.holds Try.pinned (OpenSpec.ofChange fnExactInOfWrong)

/-- 'laws.FnExactAllOf': WHATEVER THE INPUT: true; the input reads as it did. -/
def fnExactAllOfSpec : ChangeSpec := { name := "fnExactAllOf", fn := fun _ => fun
  | [d] => { results := [.lit (.bool true)], args := [d] }
  | _ => none }
def fnExactAllOfRow : OpenClaim := { program := "ytjaldondohddpaa", sum := "4b85523d3fa9e1176aee81cd4cdf689a826031ee85c7f3344b89276ff2af0ad7", func := "loop.example/g00470/laws.FnExactAllOf", spec := "fnExactAllOf", apart := false }
def FnExactAllOfSaid : Prop := fnExactAllOfRow.holds Try.pinned (OpenSpec.ofChange fnExactAllOfSpec)

/-- ITS FALSE NEIGHBOUR: 'it returns false'. Refute it at one input. -/
def fnExactAllOfWrong : ChangeSpec := { name := "fnExactAllOf", fn := fun _ => fun
  | [d] => { results := [.lit (.bool false)], args := [d] }
  | _ => none }
def FnExactAllOfWrongFalsely : Prop := fnExactAllOfRow.holds Try.pinned (OpenSpec.ofChange fnExactAllOfWrong)

/-- 'laws.FnExactDecide': WHATEVER THE INPUT: true; the input reads as it did. -/
def fnExactDecideSpec : ChangeSpec := { name := "fnExactDecide", fn := fun _ => fun
  | [d] => { results := [.lit (.bool true)], args := [d] }
  | _ => none }
def fnExactDecideRow : OpenClaim := { program := "ytjaldondohddpaa", sum := "4b85523d3fa9e1176aee81cd4cdf689a826031ee85c7f3344b89276ff2af0ad7", func := "loop.example/g00470/laws.FnExactDecide", spec := "fnExactDecide", apart := false }
def FnExactDecideSaid : Prop := fnExactDecideRow.holds Try.pinned (OpenSpec.ofChange fnExactDecideSpec)

/-- ITS FALSE NEIGHBOUR: 'it returns false'. Refute it at one input. -/
def fnExactDecideWrong : ChangeSpec := { name := "fnExactDecide", fn := fun _ => fun
  | [d] => { results := [.lit (.bool false)], args := [d] }
  | _ => none }
def FnExactDecideWrongFalsely : Prop := fnExactDecideRow.holds Try.pinned (OpenSpec.ofChange fnExactDecideWrong)

/- THE SECOND FORM. 'bulk': how many values and letters a reading holds, each counted each time it is reached (what is shared counts as often as it is met; a slice's spare places count too). A statement '..UptoSaid' is the law's where the arguments, and the package variables that the reading takes, are together of bulk at most 1048576: NARROWER than '..Said'. Prove '..Said' where nothing that the law and all that it calls make is longer than what came in: it says more and counts as full. Else prove '..UptoSaid'. A law counts once. -/
mutual
def uptoBulk {H : Type} : DataW H → Nat
  | .lit (.string bytes) => bytes.length + 1
  | .lit _ => 1
  | .nil => 1
  | .ptr d => uptoBulk d + 1
  | .slice elems spare => uptoBulkAll elems + uptoBulkAll spare + 1
  | .agg parts => uptoBulkAll parts + 1
  | .iface _ d => uptoBulk d + 1
  | .map entries => uptoBulkEntries entries + 1
  | .held _ => 1
def uptoBulkAll {H : Type} : List (DataW H) → Nat
  | [] => 0
  | d :: r => uptoBulk d + uptoBulkAll r
def uptoBulkEntries {H : Type} : List (Lit × DataW H) → Nat
  | [] => 0
  | x :: r => uptoBulkEntry x + uptoBulkEntries r
def uptoBulkEntry {H : Type} : Lit × DataW H → Nat
  | (.string bytes, d) => bytes.length + uptoBulk d + 1
  | (_, d) => uptoBulk d + 1
 end
def uptoSmall : (H : Type) → List (DataW H) → Bool := fun _ ds => decide (uptoBulkAll ds ≤ 1048576)
def OpenSpec.upto (s : _root_.Go.ChangeSpec) : _root_.Go.OpenSpec := { _root_.Go.OpenSpec.ofChange s with cond := some uptoSmall }

/-- 'laws.FnTables', WHERE WHAT IT READS IS OF BULK AT MOST 1048576: true; the input reads as it did. -/
def fnTablesUptoRow : OpenClaim := { program := "ytjaldondohddpaa", sum := "4b85523d3fa9e1176aee81cd4cdf689a826031ee85c7f3344b89276ff2af0ad7", func := "loop.example/g00470/laws.FnTables", spec := "fnTables", apart := false, narrowed := true }
def FnTablesUptoSaid : Prop := fnTablesUptoRow.holds Try.pinned (OpenSpec.upto fnTablesSpec)

/-- 'laws.FnPorts', WHERE WHAT IT READS IS OF BULK AT MOST 1048576: true; the input reads as it did. -/
def fnPortsUptoRow : OpenClaim := { program := "ytjaldondohddpaa", sum := "4b85523d3fa9e1176aee81cd4cdf689a826031ee85c7f3344b89276ff2af0ad7", func := "loop.example/g00470/laws.FnPorts", spec := "fnPorts", apart := false, narrowed := true }
def FnPortsUptoSaid : Prop := fnPortsUptoRow.holds Try.pinned (OpenSpec.upto fnPortsSpec)

/-- 'laws.FnExactAllBytes', WHERE WHAT IT READS IS OF BULK AT MOST 1048576: true; the input reads as it did. -/
def fnExactAllBytesUptoRow : OpenClaim := { program := "ytjaldondohddpaa", sum := "4b85523d3fa9e1176aee81cd4cdf689a826031ee85c7f3344b89276ff2af0ad7", func := "loop.example/g00470/laws.FnExactAllBytes", spec := "fnExactAllBytes", apart := false, narrowed := true }
def FnExactAllBytesUptoSaid : Prop := fnExactAllBytesUptoRow.holds Try.pinned (OpenSpec.upto fnExactAllBytesSpec)

/-- 'laws.FnExactCardOk', WHERE WHAT IT READS IS OF BULK AT MOST 1048576: true; the input reads as it did. -/
def fnExactCardOkUptoRow : OpenClaim := { program := "ytjaldondohddpaa", sum := "4b85523d3fa9e1176aee81cd4cdf689a826031ee85c7f3344b89276ff2af0ad7", func := "loop.example/g00470/laws.FnExactCardOk", spec := "fnExactCardOk", apart := false, narrowed := true }
def FnExactCardOkUptoSaid : Prop := fnExactCardOkUptoRow.holds Try.pinned (OpenSpec.upto fnExactCardOkSpec)

/-- 'laws.FnFlushed', WHERE WHAT IT READS IS OF BULK AT MOST 1048576: true; the input reads as it did. -/
def fnFlushedUptoRow : OpenClaim := { program := "ytjaldondohddpaa", sum := "4b85523d3fa9e1176aee81cd4cdf689a826031ee85c7f3344b89276ff2af0ad7", func := "loop.example/g00470/laws.FnFlushed", spec := "fnFlushed", apart := false, narrowed := true }
def FnFlushedUptoSaid : Prop := fnFlushedUptoRow.holds Try.pinned (OpenSpec.upto fnFlushedSpec)

/-- 'laws.FnExactInOf', WHERE WHAT IT READS IS OF BULK AT MOST 1048576: true; the input reads as it did. -/
def fnExactInOfUptoRow : OpenClaim := { program := "ytjaldondohddpaa", sum := "4b85523d3fa9e1176aee81cd4cdf689a826031ee85c7f3344b89276ff2af0ad7", func := "loop.example/g00470/laws.FnExactInOf", spec := "fnExactInOf", apart := false, narrowed := true }
def FnExactInOfUptoSaid : Prop := fnExactInOfUptoRow.holds Try.pinned (OpenSpec.upto fnExactInOfSpec)

/-- 'laws.FnExactAllOf', WHERE WHAT IT READS IS OF BULK AT MOST 1048576: true; the input reads as it did. -/
def fnExactAllOfUptoRow : OpenClaim := { program := "ytjaldondohddpaa", sum := "4b85523d3fa9e1176aee81cd4cdf689a826031ee85c7f3344b89276ff2af0ad7", func := "loop.example/g00470/laws.FnExactAllOf", spec := "fnExactAllOf", apart := false, narrowed := true }
def FnExactAllOfUptoSaid : Prop := fnExactAllOfUptoRow.holds Try.pinned (OpenSpec.upto fnExactAllOfSpec)

/-- 'laws.FnExactDecide', WHERE WHAT IT READS IS OF BULK AT MOST 1048576: true; the input reads as it did. -/
def fnExactDecideUptoRow : OpenClaim := { program := "ytjaldondohddpaa", sum := "4b85523d3fa9e1176aee81cd4cdf689a826031ee85c7f3344b89276ff2af0ad7", func := "loop.example/g00470/laws.FnExactDecide", spec := "fnExactDecide", apart := false, narrowed := true }
def FnExactDecideUptoSaid : Prop := fnExactDecideUptoRow.holds Try.pinned (OpenSpec.upto fnExactDecideSpec)

end Rows
end Go.Proofs.Ytjaldondohddpaa
