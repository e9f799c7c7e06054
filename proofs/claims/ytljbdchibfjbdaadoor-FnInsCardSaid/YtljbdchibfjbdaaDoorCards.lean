/-
  DERIVED. GIVEN WITH THE SEED: THE CARDS: each row of YtljbdchibfjbdaaDoorRows.lean that lists a variable, with what it lists TIED to the program's text (the seventh form; the later family's looks); each row that meets fmt, with fmt's text TOLD by the authors' own Lean function (tested against real Go, not proved from fmt's source: count such statements apart). THE CARD IS WHAT COUNTS. Prove the row's statement (the work); the ties are given (YtljbdchibfjbdaaDoorTie.lean); close each card by the builder's one call (the guide's Derived/Test/ToyasCard.lean, 'card_holds'). Laid BY PROGRAM, IN A SANDBOX (cutbox-door.mjs). By AI agents, Wed Nov 11 2026. No macro, syntax, notation, axiom, sorry.
-/
import Derived.Test.YtljbdchibfjbdaaDoorRows
import GoSem.ClaimSeven
namespace Go.Proofs.YtljbdchibfjbdaaDoor
namespace Rows

/-- THE TIED CARD OF 'laws.FnIns'. -/
def fnInsCard : Claim7 := { stood := { row := fnInsRow, standIns := [], harness := (true, "9cea0112cf0f4b4eed2e2d81961004972fb1f61ebdf274cce2de0bcce43c5ba6"), looks := false }, kinds := [], alts := [], laidByText := true, laidKinds := [.data, .data, .data], laidTests := true, laidLooks := .later }
def FnInsCardSaid : Prop := Claim7.holds Tryd.pinned (.plain (OpenSpec.ofChange fnInsSpec)) fnInsCard

/-- THE TIED CARD OF 'laws.FnNumbers'. -/
def fnNumbersCard : Claim7 := { stood := { row := fnNumbersRow, standIns := [], harness := (true, "9cea0112cf0f4b4eed2e2d81961004972fb1f61ebdf274cce2de0bcce43c5ba6"), looks := false }, kinds := [], alts := [], laidByText := true, laidKinds := [.data, .data, .data, .data, .pinned], laidTests := true, laidLooks := .later }
def FnNumbersCardSaid : Prop := Claim7.holds Tryd.pinned (.plain (OpenSpec.ofChange fnNumbersSpec)) fnNumbersCard

/-- THE SECOND FORM's CARD OF 'laws.FnIns'. -/
def fnInsUptoCard : Claim7 := { stood := { row := fnInsUptoRow, standIns := [], harness := (true, "9cea0112cf0f4b4eed2e2d81961004972fb1f61ebdf274cce2de0bcce43c5ba6"), looks := false }, kinds := [], alts := [], laidByText := true, laidKinds := [.data, .data, .data], laidTests := true, laidLooks := .later }
def FnInsUptoCardSaid : Prop := Claim7.holds Tryd.pinned (.plain (OpenSpec.upto fnInsSpec)) fnInsUptoCard

/-- THE SECOND FORM's CARD OF 'laws.FnNumbers'. -/
def fnNumbersUptoCard : Claim7 := { stood := { row := fnNumbersUptoRow, standIns := [], harness := (true, "9cea0112cf0f4b4eed2e2d81961004972fb1f61ebdf274cce2de0bcce43c5ba6"), looks := false }, kinds := [], alts := [], laidByText := true, laidKinds := [.data, .data, .data, .data, .pinned], laidTests := true, laidLooks := .later }
def FnNumbersUptoCardSaid : Prop := Claim7.holds Tryd.pinned (.plain (OpenSpec.upto fnNumbersSpec)) fnNumbersUptoCard
end Rows
end Go.Proofs.YtljbdchibfjbdaaDoor
