/-
  No cell of these rows narrows 'for every input' (looked for: loops, veiled, ifaces, maps, wideKeys, modest, calm, conditions, laid).
  DERIVED. THE GIVEN ROWS OF THIS SEAT. 9 by the template 'for every input the law returns true; each argument reads behind the call as it read before'; 0 by the template 'total and deterministic' (their statements: YtjmkbmpfknhcdaaTotals.lean).
  GIVEN WITH THE SEED: the statements are not yours to turn. If you find one false, say at which input.
  Laid BY PROGRAM, IN A SANDBOX (cutbox-rows.mjs): the forced cells as the released guide's own fill.sh prints them over the translation 3481456319579480… (all of the seat's roots in one cut). By AI agents, Wed Nov 11 2026. No macro, syntax, notation, axiom, sorry.
-/
import Derived.Test.YtjmkbmpfknhcdaaChecked
import GoSem.Claim
import GoSem.ClaimJoined
import GoSem.ClaimMapViews
import Derived.JoinedTies
import Derived.KernelRfl
namespace Go.Proofs.Ytjmkbmpfknhcdaa
/- THE CELL 'sum', in the pinned program and in every row, IS THE sha256 OF THE DUMP (.gsa) THAT YtjmkbmpfknhcdaaProg.lean LOADS. Nothing in Lean hashes anything: it is a label: what it is worth is what the hold of that sum in a sandbox is worth. -/
noncomputable def Try.pinned : Pinned := { name := "ytjmkbmpfknhcdaa", sum := "34814563195794807755eeb584c5eb4703c4e088a8c4283742271ecc95e32ec3", checked := Try.checked }
namespace Rows
def none {H : Type} : Left H := { results := [], args := [] }

/-- 'laws.FnVlans': WHATEVER THE INPUT: true; the input reads as it did. -/
def fnVlansSpec : ChangeSpec := { name := "fnVlans", fn := fun _ => fun
  | [d] => { results := [.lit (.bool true)], args := [d] }
  | _ => none }
def fnVlansRow : OpenClaim := { program := "ytjmkbmpfknhcdaa", sum := "34814563195794807755eeb584c5eb4703c4e088a8c4283742271ecc95e32ec3", func := "loop.example/g00470/laws.FnVlans", spec := "fnVlans", apart := false }
def FnVlansSaid : Prop := fnVlansRow.holds Try.pinned (OpenSpec.ofChange fnVlansSpec)

/-- ITS FALSE NEIGHBOUR: 'it returns false'. Refute it at one input. -/
def fnVlansWrong : ChangeSpec := { name := "fnVlans", fn := fun _ => fun
  | [d] => { results := [.lit (.bool false)], args := [d] }
  | _ => none }
def FnVlansWrongFalsely : Prop := fnVlansRow.holds Try.pinned (OpenSpec.ofChange fnVlansWrong)

/-- 'laws.FnExactHear': WHATEVER THE INPUT: true; the input reads as it did. -/
def fnExactHearSpec : ChangeSpec := { name := "fnExactHear", fn := fun _ => fun
  | [d1, d2, d3, d4] => { results := [.lit (.bool true)], args := [d1, d2, d3, d4] }
  | _ => none }
def fnExactHearRow : OpenClaim := { program := "ytjmkbmpfknhcdaa", sum := "34814563195794807755eeb584c5eb4703c4e088a8c4283742271ecc95e32ec3", func := "loop.example/g00470/laws.FnExactHear", spec := "fnExactHear", apart := false }
def FnExactHearSaid : Prop := fnExactHearRow.holds Try.pinned (OpenSpec.ofChange fnExactHearSpec)

/-- ITS FALSE NEIGHBOUR: 'it returns false'. Refute it at one input. -/
def fnExactHearWrong : ChangeSpec := { name := "fnExactHear", fn := fun _ => fun
  | [d1, d2, d3, d4] => { results := [.lit (.bool false)], args := [d1, d2, d3, d4] }
  | _ => none }
def FnExactHearWrongFalsely : Prop := fnExactHearRow.holds Try.pinned (OpenSpec.ofChange fnExactHearWrong)

/-- 'laws.FnExactOutside': WHATEVER THE INPUT: true; the input reads as it did. -/
def fnExactOutsideSpec : ChangeSpec := { name := "fnExactOutside", fn := fun _ => fun
  | [d1, d2] => { results := [.lit (.bool true)], args := [d1, d2] }
  | _ => none }
def fnExactOutsideRow : OpenClaim := { program := "ytjmkbmpfknhcdaa", sum := "34814563195794807755eeb584c5eb4703c4e088a8c4283742271ecc95e32ec3", func := "loop.example/g00470/laws.FnExactOutside", spec := "fnExactOutside", apart := false }
def FnExactOutsideSaid : Prop := fnExactOutsideRow.holds Try.pinned (OpenSpec.ofChange fnExactOutsideSpec)

/-- ITS FALSE NEIGHBOUR: 'it returns false'. Refute it at one input. -/
def fnExactOutsideWrong : ChangeSpec := { name := "fnExactOutside", fn := fun _ => fun
  | [d1, d2] => { results := [.lit (.bool false)], args := [d1, d2] }
  | _ => none }
def FnExactOutsideWrongFalsely : Prop := fnExactOutsideRow.holds Try.pinned (OpenSpec.ofChange fnExactOutsideWrong)

/-- 'laws.FnExactFrameOf': WHATEVER THE INPUT: true; the input reads as it did. -/
def fnExactFrameOfSpec : ChangeSpec := { name := "fnExactFrameOf", fn := fun _ => fun
  | [d] => { results := [.lit (.bool true)], args := [d] }
  | _ => none }
def fnExactFrameOfRow : OpenClaim := { program := "ytjmkbmpfknhcdaa", sum := "34814563195794807755eeb584c5eb4703c4e088a8c4283742271ecc95e32ec3", func := "loop.example/g00470/laws.FnExactFrameOf", spec := "fnExactFrameOf", apart := false }
def FnExactFrameOfSaid : Prop := fnExactFrameOfRow.holds Try.pinned (OpenSpec.ofChange fnExactFrameOfSpec)

/-- ITS FALSE NEIGHBOUR: 'it returns false'. Refute it at one input. -/
def fnExactFrameOfWrong : ChangeSpec := { name := "fnExactFrameOf", fn := fun _ => fun
  | [d] => { results := [.lit (.bool false)], args := [d] }
  | _ => none }
def FnExactFrameOfWrongFalsely : Prop := fnExactFrameOfRow.holds Try.pinned (OpenSpec.ofChange fnExactFrameOfWrong)

/-- 'laws.FnExactInside': WHATEVER THE INPUT: true; the input reads as it did. -/
def fnExactInsideSpec : ChangeSpec := { name := "fnExactInside", fn := fun _ => fun
  | [d1, d2] => { results := [.lit (.bool true)], args := [d1, d2] }
  | _ => none }
def fnExactInsideRow : OpenClaim := { program := "ytjmkbmpfknhcdaa", sum := "34814563195794807755eeb584c5eb4703c4e088a8c4283742271ecc95e32ec3", func := "loop.example/g00470/laws.FnExactInside", spec := "fnExactInside", apart := false }
def FnExactInsideSaid : Prop := fnExactInsideRow.holds Try.pinned (OpenSpec.ofChange fnExactInsideSpec)

/-- ITS FALSE NEIGHBOUR: 'it returns false'. Refute it at one input. -/
def fnExactInsideWrong : ChangeSpec := { name := "fnExactInside", fn := fun _ => fun
  | [d1, d2] => { results := [.lit (.bool false)], args := [d1, d2] }
  | _ => none }
def FnExactInsideWrongFalsely : Prop := fnExactInsideRow.holds Try.pinned (OpenSpec.ofChange fnExactInsideWrong)

/-- 'laws.FnExactRootPort': WHATEVER THE INPUT: true; the input reads as it did. -/
def fnExactRootPortSpec : ChangeSpec := { name := "fnExactRootPort", fn := fun _ => fun
  | [d] => { results := [.lit (.bool true)], args := [d] }
  | _ => none }
def fnExactRootPortRow : OpenClaim := { program := "ytjmkbmpfknhcdaa", sum := "34814563195794807755eeb584c5eb4703c4e088a8c4283742271ecc95e32ec3", func := "loop.example/g00470/laws.FnExactRootPort", spec := "fnExactRootPort", apart := false }
def FnExactRootPortSaid : Prop := fnExactRootPortRow.holds Try.pinned (OpenSpec.ofChange fnExactRootPortSpec)

/-- ITS FALSE NEIGHBOUR: 'it returns false'. Refute it at one input. -/
def fnExactRootPortWrong : ChangeSpec := { name := "fnExactRootPort", fn := fun _ => fun
  | [d] => { results := [.lit (.bool false)], args := [d] }
  | _ => none }
def FnExactRootPortWrongFalsely : Prop := fnExactRootPortRow.holds Try.pinned (OpenSpec.ofChange fnExactRootPortWrong)

/-- 'laws.FnFrames': WHATEVER THE INPUT: true; the input reads as it did. -/
def fnFramesSpec : ChangeSpec := { name := "fnFrames", fn := fun _ => fun
  | [d] => { results := [.lit (.bool true)], args := [d] }
  | _ => none }
def fnFramesRow : OpenClaim := { program := "ytjmkbmpfknhcdaa", sum := "34814563195794807755eeb584c5eb4703c4e088a8c4283742271ecc95e32ec3", func := "loop.example/g00470/laws.FnFrames", spec := "fnFrames", apart := false }
def FnFramesSaid : Prop := fnFramesRow.holds Try.pinned (OpenSpec.ofChange fnFramesSpec)

/-- ITS FALSE NEIGHBOUR: 'it returns false'. Refute it at one input. -/
def fnFramesWrong : ChangeSpec := { name := "fnFrames", fn := fun _ => fun
  | [d] => { results := [.lit (.bool false)], args := [d] }
  | _ => none }
def FnFramesWrongFalsely : Prop := fnFramesRow.holds Try.pinned (OpenSpec.ofChange fnFramesWrong)

/-- 'laws.FnExactHops': WHATEVER THE INPUT: true; the input reads as it did. -/
def fnExactHopsSpec : ChangeSpec := { name := "fnExactHops", fn := fun _ => fun
  | [d] => { results := [.lit (.bool true)], args := [d] }
  | _ => none }
def fnExactHopsRow : OpenClaim := { program := "ytjmkbmpfknhcdaa", sum := "34814563195794807755eeb584c5eb4703c4e088a8c4283742271ecc95e32ec3", func := "loop.example/g00470/laws.FnExactHops", spec := "fnExactHops", apart := false }
def FnExactHopsSaid : Prop := fnExactHopsRow.holds Try.pinned (OpenSpec.ofChange fnExactHopsSpec)

/-- ITS FALSE NEIGHBOUR: 'it returns false'. Refute it at one input. -/
def fnExactHopsWrong : ChangeSpec := { name := "fnExactHops", fn := fun _ => fun
  | [d] => { results := [.lit (.bool false)], args := [d] }
  | _ => none }
def FnExactHopsWrongFalsely : Prop := fnExactHopsRow.holds Try.pinned (OpenSpec.ofChange fnExactHopsWrong)

/-- 'laws.FnExactOwn': WHATEVER THE INPUT: true; the input reads as it did. -/
def fnExactOwnSpec : ChangeSpec := { name := "fnExactOwn", fn := fun _ => fun
  | [d1, d2] => { results := [.lit (.bool true)], args := [d1, d2] }
  | _ => none }
def fnExactOwnRow : OpenClaim := { program := "ytjmkbmpfknhcdaa", sum := "34814563195794807755eeb584c5eb4703c4e088a8c4283742271ecc95e32ec3", func := "loop.example/g00470/laws.FnExactOwn", spec := "fnExactOwn", apart := false }
def FnExactOwnSaid : Prop := fnExactOwnRow.holds Try.pinned (OpenSpec.ofChange fnExactOwnSpec)

/-- ITS FALSE NEIGHBOUR: 'it returns false'. Refute it at one input. -/
def fnExactOwnWrong : ChangeSpec := { name := "fnExactOwn", fn := fun _ => fun
  | [d1, d2] => { results := [.lit (.bool false)], args := [d1, d2] }
  | _ => none }
def FnExactOwnWrongFalsely : Prop := fnExactOwnRow.holds Try.pinned (OpenSpec.ofChange fnExactOwnWrong)

/- THE SECOND FORM. 'bulk': how many values and letters a reading holds, each counted each time it is reached (what is shared counts as often as it is met; a slice's spare places count too). A statement '..UptoSaid' is the law's where the arguments, and the package variables that the reading takes, are together of bulk at most 1048576: NARROWER than '..Said'. Prove '..Said' where nothing that the law and all that it calls make is longer than what came in: it says more and counts as full. Else prove '..UptoSaid'. A law counts once. -/
mutual
def uptoBulk {H : Type} : DataW H → Nat
  | .lit (.string bytes) => bytes.length + 1
  | .lit _ => 1
  | .nil => 1
  | .ptr d => uptoBulk d + 1
  | .slice elems spare => uptoBulkAll elems + uptoBulkAll spare + 1
  | .agg parts => uptoBulkAll parts + 1
  | .iface _ d => uptoBulk d + 1
  | .map entries => uptoBulkEntries entries + 1
  | .held _ => 1
def uptoBulkAll {H : Type} : List (DataW H) → Nat
  | [] => 0
  | d :: r => uptoBulk d + uptoBulkAll r
def uptoBulkEntries {H : Type} : List (Lit × DataW H) → Nat
  | [] => 0
  | x :: r => uptoBulkEntry x + uptoBulkEntries r
def uptoBulkEntry {H : Type} : Lit × DataW H → Nat
  | (.string bytes, d) => bytes.length + uptoBulk d + 1
  | (_, d) => uptoBulk d + 1
 end
def uptoSmall : (H : Type) → List (DataW H) → Bool := fun _ ds => decide (uptoBulkAll ds ≤ 1048576)
def OpenSpec.upto (s : _root_.Go.ChangeSpec) : _root_.Go.OpenSpec := { _root_.Go.OpenSpec.ofChange s with cond := some uptoSmall }

/-- 'laws.FnVlans', WHERE WHAT IT READS IS OF BULK AT MOST 1048576: true; the input reads as it did. -/
def fnVlansUptoRow : OpenClaim := { program := "ytjmkbmpfknhcdaa", sum := "34814563195794807755eeb584c5eb4703c4e088a8c4283742271ecc95e32ec3", func := "loop.example/g00470/laws.FnVlans", spec := "fnVlans", apart := false, narrowed := true }
def FnVlansUptoSaid : Prop := fnVlansUptoRow.holds Try.pinned (OpenSpec.upto fnVlansSpec)

/-- 'laws.FnExactHear', WHERE WHAT IT READS IS OF BULK AT MOST 1048576: true; the input reads as it did. -/
def fnExactHearUptoRow : OpenClaim := { program := "ytjmkbmpfknhcdaa", sum := "34814563195794807755eeb584c5eb4703c4e088a8c4283742271ecc95e32ec3", func := "loop.example/g00470/laws.FnExactHear", spec := "fnExactHear", apart := false, narrowed := true }
def FnExactHearUptoSaid : Prop := fnExactHearUptoRow.holds Try.pinned (OpenSpec.upto fnExactHearSpec)

/-- 'laws.FnExactOutside', WHERE WHAT IT READS IS OF BULK AT MOST 1048576: true; the input reads as it did. -/
def fnExactOutsideUptoRow : OpenClaim := { program := "ytjmkbmpfknhcdaa", sum := "34814563195794807755eeb584c5eb4703c4e088a8c4283742271ecc95e32ec3", func := "loop.example/g00470/laws.FnExactOutside", spec := "fnExactOutside", apart := false, narrowed := true }
def FnExactOutsideUptoSaid : Prop := fnExactOutsideUptoRow.holds Try.pinned (OpenSpec.upto fnExactOutsideSpec)

/-- 'laws.FnExactFrameOf', WHERE WHAT IT READS IS OF BULK AT MOST 1048576: true; the input reads as it did. -/
def fnExactFrameOfUptoRow : OpenClaim := { program := "ytjmkbmpfknhcdaa", sum := "34814563195794807755eeb584c5eb4703c4e088a8c4283742271ecc95e32ec3", func := "loop.example/g00470/laws.FnExactFrameOf", spec := "fnExactFrameOf", apart := false, narrowed := true }
def FnExactFrameOfUptoSaid : Prop := fnExactFrameOfUptoRow.holds Try.pinned (OpenSpec.upto fnExactFrameOfSpec)

/-- 'laws.FnExactInside', WHERE WHAT IT READS IS OF BULK AT MOST 1048576: true; the input reads as it did. -/
def fnExactInsideUptoRow : OpenClaim := { program := "ytjmkbmpfknhcdaa", sum := "34814563195794807755eeb584c5eb4703c4e088a8c4283742271ecc95e32ec3", func := "loop.example/g00470/laws.FnExactInside", spec := "fnExactInside", apart := false, narrowed := true }
def FnExactInsideUptoSaid : Prop := fnExactInsideUptoRow.holds Try.pinned (OpenSpec.upto fnExactInsideSpec)

/-- 'laws.FnExactRootPort', WHERE WHAT IT READS IS OF BULK AT MOST 1048576: true; the input reads as it did. -/
def fnExactRootPortUptoRow : OpenClaim := { program := "ytjmkbmpfknhcdaa", sum := "34814563195794807755eeb584c5eb4703c4e088a8c4283742271ecc95e32ec3", func := "loop.example/g00470/laws.FnExactRootPort", spec := "fnExactRootPort", apart := false, narrowed := true }
def FnExactRootPortUptoSaid : Prop := fnExactRootPortUptoRow.holds Try.pinned (OpenSpec.upto fnExactRootPortSpec)

/-- 'laws.FnFrames', WHERE WHAT IT READS IS OF BULK AT MOST 1048576: true; the input reads as it did. -/
def fnFramesUptoRow : OpenClaim := { program := "ytjmkbmpfknhcdaa", sum := "34814563195794807755eeb584c5eb4703c4e088a8c4283742271ecc95e32ec3", func := "loop.example/g00470/laws.FnFrames", spec := "fnFrames", apart := false, narrowed := true }
def FnFramesUptoSaid : Prop := fnFramesUptoRow.holds Try.pinned (OpenSpec.upto fnFramesSpec)

/-- 'laws.FnExactHops', WHERE WHAT IT READS IS OF BULK AT MOST 1048576: true; the input reads as it did. -/
def fnExactHopsUptoRow : OpenClaim := { program := "ytjmkbmpfknhcdaa", sum := "34814563195794807755eeb584c5eb4703c4e088a8c4283742271ecc95e32ec3", func := "loop.example/g00470/laws.FnExactHops", spec := "fnExactHops", apart := false, narrowed := true }
def FnExactHopsUptoSaid : Prop := fnExactHopsUptoRow.holds Try.pinned (OpenSpec.upto fnExactHopsSpec)

/-- 'laws.FnExactOwn', WHERE WHAT IT READS IS OF BULK AT MOST 1048576: true; the input reads as it did. -/
def fnExactOwnUptoRow : OpenClaim := { program := "ytjmkbmpfknhcdaa", sum := "34814563195794807755eeb584c5eb4703c4e088a8c4283742271ecc95e32ec3", func := "loop.example/g00470/laws.FnExactOwn", spec := "fnExactOwn", apart := false, narrowed := true }
def FnExactOwnUptoSaid : Prop := fnExactOwnUptoRow.holds Try.pinned (OpenSpec.upto fnExactOwnSpec)

end Rows
end Go.Proofs.Ytjmkbmpfknhcdaa
