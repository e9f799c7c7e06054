/-
  No cell of these rows narrows 'for every input' (looked for: loops, veiled, ifaces, maps, wideKeys, modest, calm, conditions, laid).
  DERIVED. THE GIVEN ROWS OF THIS SEAT. 11 by the template 'for every input the law returns true; each argument reads behind the call as it read before'; 0 by the template 'total and deterministic' (their statements: YtahpnabiobemoaaTotals.lean).
  GIVEN WITH THE SEED: the statements are not yours to turn. If you find one false, say at which input.
  Laid BY PROGRAM, IN A SANDBOX (cutbox-rows.mjs): the forced cells as the released guide's own fill.sh prints them over the translation 9647aa95bbfdbc80… (all of the seat's roots in one cut). By AI agents, Wed Nov 11 2026. No macro, syntax, notation, axiom, sorry.
-/
import Derived.Test.YtahpnabiobemoaaChecked
import GoSem.Claim
import GoSem.ClaimJoined
import GoSem.ClaimMapViews
import Derived.JoinedTies
import Derived.KernelRfl
namespace Go.Proofs.Ytahpnabiobemoaa
/- THE CELL 'sum', in the pinned program and in every row, IS THE sha256 OF THE DUMP (.gsa) THAT YtahpnabiobemoaaProg.lean LOADS. Nothing in Lean hashes anything: it is a label: what it is worth is what the hold of that sum in a sandbox is worth. -/
noncomputable def Try.pinned : Pinned := { name := "ytahpnabiobemoaa", sum := "9647aa95bbfdbc80cca3d1dec4e946f9f3d5266c3a39547565967b500c5131aa", checked := Try.checked }
namespace Rows
def none {H : Type} : Left H := { results := [], args := [] }

/-- 'laws.FnExactConstants': WHATEVER THE INPUT: true; the input reads as it did. -/
def fnExactConstantsSpec : ChangeSpec := { name := "fnExactConstants", fn := fun _ => fun
  | [] => { results := [.lit (.bool true)], args := [] }
  | _ => none }
def fnExactConstantsRow : OpenClaim := { program := "ytahpnabiobemoaa", sum := "9647aa95bbfdbc80cca3d1dec4e946f9f3d5266c3a39547565967b500c5131aa", func := "loop.example/g00470/laws.FnExactConstants", spec := "fnExactConstants", apart := false }
def FnExactConstantsSaid : Prop := fnExactConstantsRow.holds Try.pinned (OpenSpec.ofChange fnExactConstantsSpec)

/-- ITS FALSE NEIGHBOUR: 'it returns false'. Refute it at one input. -/
def fnExactConstantsWrong : ChangeSpec := { name := "fnExactConstants", fn := fun _ => fun
  | [] => { results := [.lit (.bool false)], args := [] }
  | _ => none }
def FnExactConstantsWrongFalsely : Prop := fnExactConstantsRow.holds Try.pinned (OpenSpec.ofChange fnExactConstantsWrong)

/-- 'laws.FnExactVecOk': WHATEVER THE INPUT: true; the input reads as it did. -/
def fnExactVecOkSpec : ChangeSpec := { name := "fnExactVecOk", fn := fun _ => fun
  | [d] => { results := [.lit (.bool true)], args := [d] }
  | _ => none }
def fnExactVecOkRow : OpenClaim := { program := "ytahpnabiobemoaa", sum := "9647aa95bbfdbc80cca3d1dec4e946f9f3d5266c3a39547565967b500c5131aa", func := "loop.example/g00470/laws.FnExactVecOk", spec := "fnExactVecOk", apart := false }
def FnExactVecOkSaid : Prop := fnExactVecOkRow.holds Try.pinned (OpenSpec.ofChange fnExactVecOkSpec)

/-- ITS FALSE NEIGHBOUR: 'it returns false'. Refute it at one input. -/
def fnExactVecOkWrong : ChangeSpec := { name := "fnExactVecOk", fn := fun _ => fun
  | [d] => { results := [.lit (.bool false)], args := [d] }
  | _ => none }
def FnExactVecOkWrongFalsely : Prop := fnExactVecOkRow.holds Try.pinned (OpenSpec.ofChange fnExactVecOkWrong)

/-- 'laws.FnExactSumOf': WHATEVER THE INPUT: true; the input reads as it did. -/
def fnExactSumOfSpec : ChangeSpec := { name := "fnExactSumOf", fn := fun _ => fun
  | [d] => { results := [.lit (.bool true)], args := [d] }
  | _ => none }
def fnExactSumOfRow : OpenClaim := { program := "ytahpnabiobemoaa", sum := "9647aa95bbfdbc80cca3d1dec4e946f9f3d5266c3a39547565967b500c5131aa", func := "loop.example/g00470/laws.FnExactSumOf", spec := "fnExactSumOf", apart := false }
def FnExactSumOfSaid : Prop := fnExactSumOfRow.holds Try.pinned (OpenSpec.ofChange fnExactSumOfSpec)

/-- ITS FALSE NEIGHBOUR: 'it returns false'. Refute it at one input. -/
def fnExactSumOfWrong : ChangeSpec := { name := "fnExactSumOf", fn := fun _ => fun
  | [d] => { results := [.lit (.bool false)], args := [d] }
  | _ => none }
def FnExactSumOfWrongFalsely : Prop := fnExactSumOfRow.holds Try.pinned (OpenSpec.ofChange fnExactSumOfWrong)

/-- 'laws.FnExactGetNum': WHATEVER THE INPUT: true; the input reads as it did. -/
def fnExactGetNumSpec : ChangeSpec := { name := "fnExactGetNum", fn := fun _ => fun
  | [d1, d2] => { results := [.lit (.bool true)], args := [d1, d2] }
  | _ => none }
def fnExactGetNumRow : OpenClaim := { program := "ytahpnabiobemoaa", sum := "9647aa95bbfdbc80cca3d1dec4e946f9f3d5266c3a39547565967b500c5131aa", func := "loop.example/g00470/laws.FnExactGetNum", spec := "fnExactGetNum", apart := false }
def FnExactGetNumSaid : Prop := fnExactGetNumRow.holds Try.pinned (OpenSpec.ofChange fnExactGetNumSpec)

/-- ITS FALSE NEIGHBOUR: 'it returns false'. Refute it at one input. -/
def fnExactGetNumWrong : ChangeSpec := { name := "fnExactGetNum", fn := fun _ => fun
  | [d1, d2] => { results := [.lit (.bool false)], args := [d1, d2] }
  | _ => none }
def FnExactGetNumWrongFalsely : Prop := fnExactGetNumRow.holds Try.pinned (OpenSpec.ofChange fnExactGetNumWrong)

/-- 'laws.FnExactPutNum': WHATEVER THE INPUT: true; the input reads as it did. -/
def fnExactPutNumSpec : ChangeSpec := { name := "fnExactPutNum", fn := fun _ => fun
  | [d] => { results := [.lit (.bool true)], args := [d] }
  | _ => none }
def fnExactPutNumRow : OpenClaim := { program := "ytahpnabiobemoaa", sum := "9647aa95bbfdbc80cca3d1dec4e946f9f3d5266c3a39547565967b500c5131aa", func := "loop.example/g00470/laws.FnExactPutNum", spec := "fnExactPutNum", apart := false }
def FnExactPutNumSaid : Prop := fnExactPutNumRow.holds Try.pinned (OpenSpec.ofChange fnExactPutNumSpec)

/-- ITS FALSE NEIGHBOUR: 'it returns false'. Refute it at one input. -/
def fnExactPutNumWrong : ChangeSpec := { name := "fnExactPutNum", fn := fun _ => fun
  | [d] => { results := [.lit (.bool false)], args := [d] }
  | _ => none }
def FnExactPutNumWrongFalsely : Prop := fnExactPutNumRow.holds Try.pinned (OpenSpec.ofChange fnExactPutNumWrong)

/-- 'laws.FnExactBetter': WHATEVER THE INPUT: true; the input reads as it did. -/
def fnExactBetterSpec : ChangeSpec := { name := "fnExactBetter", fn := fun _ => fun
  | [d1, d2] => { results := [.lit (.bool true)], args := [d1, d2] }
  | _ => none }
def fnExactBetterRow : OpenClaim := { program := "ytahpnabiobemoaa", sum := "9647aa95bbfdbc80cca3d1dec4e946f9f3d5266c3a39547565967b500c5131aa", func := "loop.example/g00470/laws.FnExactBetter", spec := "fnExactBetter", apart := false }
def FnExactBetterSaid : Prop := fnExactBetterRow.holds Try.pinned (OpenSpec.ofChange fnExactBetterSpec)

/-- ITS FALSE NEIGHBOUR: 'it returns false'. Refute it at one input. -/
def fnExactBetterWrong : ChangeSpec := { name := "fnExactBetter", fn := fun _ => fun
  | [d1, d2] => { results := [.lit (.bool false)], args := [d1, d2] }
  | _ => none }
def FnExactBetterWrongFalsely : Prop := fnExactBetterRow.holds Try.pinned (OpenSpec.ofChange fnExactBetterWrong)

/-- 'laws.FnExactInOk': WHATEVER THE INPUT: true; the input reads as it did. -/
def fnExactInOkSpec : ChangeSpec := { name := "fnExactInOk", fn := fun _ => fun
  | [d] => { results := [.lit (.bool true)], args := [d] }
  | _ => none }
def fnExactInOkRow : OpenClaim := { program := "ytahpnabiobemoaa", sum := "9647aa95bbfdbc80cca3d1dec4e946f9f3d5266c3a39547565967b500c5131aa", func := "loop.example/g00470/laws.FnExactInOk", spec := "fnExactInOk", apart := false }
def FnExactInOkSaid : Prop := fnExactInOkRow.holds Try.pinned (OpenSpec.ofChange fnExactInOkSpec)

/-- ITS FALSE NEIGHBOUR: 'it returns false'. Refute it at one input. -/
def fnExactInOkWrong : ChangeSpec := { name := "fnExactInOk", fn := fun _ => fun
  | [d] => { results := [.lit (.bool false)], args := [d] }
  | _ => none }
def FnExactInOkWrongFalsely : Prop := fnExactInOkRow.holds Try.pinned (OpenSpec.ofChange fnExactInOkWrong)

/-- 'laws.FnExactWhere': WHATEVER THE INPUT: true; the input reads as it did. -/
def fnExactWhereSpec : ChangeSpec := { name := "fnExactWhere", fn := fun _ => fun
  | [d1, d2, d3] => { results := [.lit (.bool true)], args := [d1, d2, d3] }
  | _ => none }
def fnExactWhereRow : OpenClaim := { program := "ytahpnabiobemoaa", sum := "9647aa95bbfdbc80cca3d1dec4e946f9f3d5266c3a39547565967b500c5131aa", func := "loop.example/g00470/laws.FnExactWhere", spec := "fnExactWhere", apart := false }
def FnExactWhereSaid : Prop := fnExactWhereRow.holds Try.pinned (OpenSpec.ofChange fnExactWhereSpec)

/-- ITS FALSE NEIGHBOUR: 'it returns false'. Refute it at one input. -/
def fnExactWhereWrong : ChangeSpec := { name := "fnExactWhere", fn := fun _ => fun
  | [d1, d2, d3] => { results := [.lit (.bool false)], args := [d1, d2, d3] }
  | _ => none }
def FnExactWhereWrongFalsely : Prop := fnExactWhereRow.holds Try.pinned (OpenSpec.ofChange fnExactWhereWrong)

/-- 'laws.FnExactFrameSame': WHATEVER THE INPUT: true; the input reads as it did. -/
def fnExactFrameSameSpec : ChangeSpec := { name := "fnExactFrameSame", fn := fun _ => fun
  | [d1, d2] => { results := [.lit (.bool true)], args := [d1, d2] }
  | _ => none }
def fnExactFrameSameRow : OpenClaim := { program := "ytahpnabiobemoaa", sum := "9647aa95bbfdbc80cca3d1dec4e946f9f3d5266c3a39547565967b500c5131aa", func := "loop.example/g00470/laws.FnExactFrameSame", spec := "fnExactFrameSame", apart := false }
def FnExactFrameSameSaid : Prop := fnExactFrameSameRow.holds Try.pinned (OpenSpec.ofChange fnExactFrameSameSpec)

/-- ITS FALSE NEIGHBOUR: 'it returns false'. Refute it at one input. -/
def fnExactFrameSameWrong : ChangeSpec := { name := "fnExactFrameSame", fn := fun _ => fun
  | [d1, d2] => { results := [.lit (.bool false)], args := [d1, d2] }
  | _ => none }
def FnExactFrameSameWrongFalsely : Prop := fnExactFrameSameRow.holds Try.pinned (OpenSpec.ofChange fnExactFrameSameWrong)

/-- 'laws.FnExactPortOk': WHATEVER THE INPUT: true; the input reads as it did. -/
def fnExactPortOkSpec : ChangeSpec := { name := "fnExactPortOk", fn := fun _ => fun
  | [d] => { results := [.lit (.bool true)], args := [d] }
  | _ => none }
def fnExactPortOkRow : OpenClaim := { program := "ytahpnabiobemoaa", sum := "9647aa95bbfdbc80cca3d1dec4e946f9f3d5266c3a39547565967b500c5131aa", func := "loop.example/g00470/laws.FnExactPortOk", spec := "fnExactPortOk", apart := false }
def FnExactPortOkSaid : Prop := fnExactPortOkRow.holds Try.pinned (OpenSpec.ofChange fnExactPortOkSpec)

/-- ITS FALSE NEIGHBOUR: 'it returns false'. Refute it at one input. -/
def fnExactPortOkWrong : ChangeSpec := { name := "fnExactPortOk", fn := fun _ => fun
  | [d] => { results := [.lit (.bool false)], args := [d] }
  | _ => none }
def FnExactPortOkWrongFalsely : Prop := fnExactPortOkRow.holds Try.pinned (OpenSpec.ofChange fnExactPortOkWrong)

/-- 'laws.FnExactFrameOk': WHATEVER THE INPUT: true; the input reads as it did. -/
def fnExactFrameOkSpec : ChangeSpec := { name := "fnExactFrameOk", fn := fun _ => fun
  | [d] => { results := [.lit (.bool true)], args := [d] }
  | _ => none }
def fnExactFrameOkRow : OpenClaim := { program := "ytahpnabiobemoaa", sum := "9647aa95bbfdbc80cca3d1dec4e946f9f3d5266c3a39547565967b500c5131aa", func := "loop.example/g00470/laws.FnExactFrameOk", spec := "fnExactFrameOk", apart := false }
def FnExactFrameOkSaid : Prop := fnExactFrameOkRow.holds Try.pinned (OpenSpec.ofChange fnExactFrameOkSpec)

/-- ITS FALSE NEIGHBOUR: 'it returns false'. Refute it at one input. -/
def fnExactFrameOkWrong : ChangeSpec := { name := "fnExactFrameOk", fn := fun _ => fun
  | [d] => { results := [.lit (.bool false)], args := [d] }
  | _ => none }
def FnExactFrameOkWrongFalsely : Prop := fnExactFrameOkRow.holds Try.pinned (OpenSpec.ofChange fnExactFrameOkWrong)

/- THE SECOND FORM. 'bulk': how many values and letters a reading holds, each counted each time it is reached (what is shared counts as often as it is met; a slice's spare places count too). A statement '..UptoSaid' is the law's where the arguments, and the package variables that the reading takes, are together of bulk at most 1048576: NARROWER than '..Said'. Prove '..Said' where nothing that the law and all that it calls make is longer than what came in: it says more and counts as full. Else prove '..UptoSaid'. A law counts once. -/
mutual
def uptoBulk {H : Type} : DataW H → Nat
  | .lit (.string bytes) => bytes.length + 1
  | .lit _ => 1
  | .nil => 1
  | .ptr d => uptoBulk d + 1
  | .slice elems spare => uptoBulkAll elems + uptoBulkAll spare + 1
  | .agg parts => uptoBulkAll parts + 1
  | .iface _ d => uptoBulk d + 1
  | .map entries => uptoBulkEntries entries + 1
  | .held _ => 1
def uptoBulkAll {H : Type} : List (DataW H) → Nat
  | [] => 0
  | d :: r => uptoBulk d + uptoBulkAll r
def uptoBulkEntries {H : Type} : List (Lit × DataW H) → Nat
  | [] => 0
  | x :: r => uptoBulkEntry x + uptoBulkEntries r
def uptoBulkEntry {H : Type} : Lit × DataW H → Nat
  | (.string bytes, d) => bytes.length + uptoBulk d + 1
  | (_, d) => uptoBulk d + 1
 end
def uptoSmall : (H : Type) → List (DataW H) → Bool := fun _ ds => decide (uptoBulkAll ds ≤ 1048576)
def OpenSpec.upto (s : _root_.Go.ChangeSpec) : _root_.Go.OpenSpec := { _root_.Go.OpenSpec.ofChange s with cond := some uptoSmall }

/-- 'laws.FnExactConstants', WHERE WHAT IT READS IS OF BULK AT MOST 1048576: true; the input reads as it did. -/
def fnExactConstantsUptoRow : OpenClaim := { program := "ytahpnabiobemoaa", sum := "9647aa95bbfdbc80cca3d1dec4e946f9f3d5266c3a39547565967b500c5131aa", func := "loop.example/g00470/laws.FnExactConstants", spec := "fnExactConstants", apart := false, narrowed := true }
def FnExactConstantsUptoSaid : Prop := fnExactConstantsUptoRow.holds Try.pinned (OpenSpec.upto fnExactConstantsSpec)

/-- 'laws.FnExactVecOk', WHERE WHAT IT READS IS OF BULK AT MOST 1048576: true; the input reads as it did. -/
def fnExactVecOkUptoRow : OpenClaim := { program := "ytahpnabiobemoaa", sum := "9647aa95bbfdbc80cca3d1dec4e946f9f3d5266c3a39547565967b500c5131aa", func := "loop.example/g00470/laws.FnExactVecOk", spec := "fnExactVecOk", apart := false, narrowed := true }
def FnExactVecOkUptoSaid : Prop := fnExactVecOkUptoRow.holds Try.pinned (OpenSpec.upto fnExactVecOkSpec)

/-- 'laws.FnExactSumOf', WHERE WHAT IT READS IS OF BULK AT MOST 1048576: true; the input reads as it did. -/
def fnExactSumOfUptoRow : OpenClaim := { program := "ytahpnabiobemoaa", sum := "9647aa95bbfdbc80cca3d1dec4e946f9f3d5266c3a39547565967b500c5131aa", func := "loop.example/g00470/laws.FnExactSumOf", spec := "fnExactSumOf", apart := false, narrowed := true }
def FnExactSumOfUptoSaid : Prop := fnExactSumOfUptoRow.holds Try.pinned (OpenSpec.upto fnExactSumOfSpec)

/-- 'laws.FnExactGetNum', WHERE WHAT IT READS IS OF BULK AT MOST 1048576: true; the input reads as it did. -/
def fnExactGetNumUptoRow : OpenClaim := { program := "ytahpnabiobemoaa", sum := "9647aa95bbfdbc80cca3d1dec4e946f9f3d5266c3a39547565967b500c5131aa", func := "loop.example/g00470/laws.FnExactGetNum", spec := "fnExactGetNum", apart := false, narrowed := true }
def FnExactGetNumUptoSaid : Prop := fnExactGetNumUptoRow.holds Try.pinned (OpenSpec.upto fnExactGetNumSpec)

/-- 'laws.FnExactPutNum', WHERE WHAT IT READS IS OF BULK AT MOST 1048576: true; the input reads as it did. -/
def fnExactPutNumUptoRow : OpenClaim := { program := "ytahpnabiobemoaa", sum := "9647aa95bbfdbc80cca3d1dec4e946f9f3d5266c3a39547565967b500c5131aa", func := "loop.example/g00470/laws.FnExactPutNum", spec := "fnExactPutNum", apart := false, narrowed := true }
def FnExactPutNumUptoSaid : Prop := fnExactPutNumUptoRow.holds Try.pinned (OpenSpec.upto fnExactPutNumSpec)

/-- 'laws.FnExactBetter', WHERE WHAT IT READS IS OF BULK AT MOST 1048576: true; the input reads as it did. -/
def fnExactBetterUptoRow : OpenClaim := { program := "ytahpnabiobemoaa", sum := "9647aa95bbfdbc80cca3d1dec4e946f9f3d5266c3a39547565967b500c5131aa", func := "loop.example/g00470/laws.FnExactBetter", spec := "fnExactBetter", apart := false, narrowed := true }
def FnExactBetterUptoSaid : Prop := fnExactBetterUptoRow.holds Try.pinned (OpenSpec.upto fnExactBetterSpec)

/-- 'laws.FnExactInOk', WHERE WHAT IT READS IS OF BULK AT MOST 1048576: true; the input reads as it did. -/
def fnExactInOkUptoRow : OpenClaim := { program := "ytahpnabiobemoaa", sum := "9647aa95bbfdbc80cca3d1dec4e946f9f3d5266c3a39547565967b500c5131aa", func := "loop.example/g00470/laws.FnExactInOk", spec := "fnExactInOk", apart := false, narrowed := true }
def FnExactInOkUptoSaid : Prop := fnExactInOkUptoRow.holds Try.pinned (OpenSpec.upto fnExactInOkSpec)

/-- 'laws.FnExactWhere', WHERE WHAT IT READS IS OF BULK AT MOST 1048576: true; the input reads as it did. -/
def fnExactWhereUptoRow : OpenClaim := { program := "ytahpnabiobemoaa", sum := "9647aa95bbfdbc80cca3d1dec4e946f9f3d5266c3a39547565967b500c5131aa", func := "loop.example/g00470/laws.FnExactWhere", spec := "fnExactWhere", apart := false, narrowed := true }
def FnExactWhereUptoSaid : Prop := fnExactWhereUptoRow.holds Try.pinned (OpenSpec.upto fnExactWhereSpec)

/-- 'laws.FnExactFrameSame', WHERE WHAT IT READS IS OF BULK AT MOST 1048576: true; the input reads as it did. -/
def fnExactFrameSameUptoRow : OpenClaim := { program := "ytahpnabiobemoaa", sum := "9647aa95bbfdbc80cca3d1dec4e946f9f3d5266c3a39547565967b500c5131aa", func := "loop.example/g00470/laws.FnExactFrameSame", spec := "fnExactFrameSame", apart := false, narrowed := true }
def FnExactFrameSameUptoSaid : Prop := fnExactFrameSameUptoRow.holds Try.pinned (OpenSpec.upto fnExactFrameSameSpec)

/-- 'laws.FnExactPortOk', WHERE WHAT IT READS IS OF BULK AT MOST 1048576: true; the input reads as it did. -/
def fnExactPortOkUptoRow : OpenClaim := { program := "ytahpnabiobemoaa", sum := "9647aa95bbfdbc80cca3d1dec4e946f9f3d5266c3a39547565967b500c5131aa", func := "loop.example/g00470/laws.FnExactPortOk", spec := "fnExactPortOk", apart := false, narrowed := true }
def FnExactPortOkUptoSaid : Prop := fnExactPortOkUptoRow.holds Try.pinned (OpenSpec.upto fnExactPortOkSpec)

/-- 'laws.FnExactFrameOk', WHERE WHAT IT READS IS OF BULK AT MOST 1048576: true; the input reads as it did. -/
def fnExactFrameOkUptoRow : OpenClaim := { program := "ytahpnabiobemoaa", sum := "9647aa95bbfdbc80cca3d1dec4e946f9f3d5266c3a39547565967b500c5131aa", func := "loop.example/g00470/laws.FnExactFrameOk", spec := "fnExactFrameOk", apart := false, narrowed := true }
def FnExactFrameOkUptoSaid : Prop := fnExactFrameOkUptoRow.holds Try.pinned (OpenSpec.upto fnExactFrameOkSpec)

end Rows
end Go.Proofs.Ytahpnabiobemoaa
