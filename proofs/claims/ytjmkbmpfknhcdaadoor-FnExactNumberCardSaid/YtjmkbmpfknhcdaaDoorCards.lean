/-
  DERIVED. GIVEN WITH THE SEED: THE CARDS: each row of YtjmkbmpfknhcdaaDoorRows.lean that lists a variable, with what it lists TIED to the program's text (the seventh form; the later family's looks); each row that meets fmt, with fmt's text TOLD by the authors' own Lean function (tested against real Go, not proved from fmt's source: count such statements apart). THE CARD IS WHAT COUNTS. Prove the row's statement (the work); the ties are given (YtjmkbmpfknhcdaaDoorTie.lean); close each card by the builder's one call (the guide's Derived/Test/ToyasCard.lean, 'card_holds'). Laid BY PROGRAM, IN A SANDBOX (cutbox-door.mjs). By AI agents, Wed Nov 11 2026. No macro, syntax, notation, axiom, sorry.
-/
import Derived.Test.YtjmkbmpfknhcdaaDoorRows
import GoSem.ClaimSeven
namespace Go.Proofs.YtjmkbmpfknhcdaaDoor
namespace Rows

/-- THE TIED CARD OF 'laws.FnExactDigits'. -/
def fnExactDigitsCard : Claim7 := { stood := { row := fnExactDigitsRow, standIns := [], harness := (true, "5b171aca9f4e82b2ae64e7692616f746bc0ee709d1399d49a9f0e3a89b4748c6"), looks := false }, kinds := [], alts := [], laidByText := true, laidKinds := [.data, .data, .data], laidTests := true, laidLooks := .later }
def FnExactDigitsCardSaid : Prop := Claim7.holds Tryd.pinned (.plain (OpenSpec.ofChange fnExactDigitsSpec)) fnExactDigitsCard

/-- THE TIED CARD OF 'laws.FnExactVecText'. -/
def fnExactVecTextCard : Claim7 := { stood := { row := fnExactVecTextRow, standIns := [], harness := (true, "5b171aca9f4e82b2ae64e7692616f746bc0ee709d1399d49a9f0e3a89b4748c6"), looks := false }, kinds := [], alts := [], laidByText := true, laidKinds := [.data, .data, .data], laidTests := true, laidLooks := .later }
def FnExactVecTextCardSaid : Prop := Claim7.holds Tryd.pinned (.plain (OpenSpec.ofChange fnExactVecTextSpec)) fnExactVecTextCard

/-- THE TIED CARD OF 'laws.FnExactNumber'. -/
def fnExactNumberCard : Claim7 := { stood := { row := fnExactNumberRow, standIns := [], harness := (true, "5b171aca9f4e82b2ae64e7692616f746bc0ee709d1399d49a9f0e3a89b4748c6"), looks := false }, kinds := [], alts := [], laidByText := true, laidKinds := [.data, .data, .data], laidTests := true, laidLooks := .later }
def FnExactNumberCardSaid : Prop := Claim7.holds Tryd.pinned (.plain (OpenSpec.ofChange fnExactNumberSpec)) fnExactNumberCard

/-- THE SECOND FORM's CARD OF 'laws.FnExactDigits'. -/
def fnExactDigitsUptoCard : Claim7 := { stood := { row := fnExactDigitsUptoRow, standIns := [], harness := (true, "5b171aca9f4e82b2ae64e7692616f746bc0ee709d1399d49a9f0e3a89b4748c6"), looks := false }, kinds := [], alts := [], laidByText := true, laidKinds := [.data, .data, .data], laidTests := true, laidLooks := .later }
def FnExactDigitsUptoCardSaid : Prop := Claim7.holds Tryd.pinned (.plain (OpenSpec.upto fnExactDigitsSpec)) fnExactDigitsUptoCard

/-- THE SECOND FORM's CARD OF 'laws.FnExactVecText'. -/
def fnExactVecTextUptoCard : Claim7 := { stood := { row := fnExactVecTextUptoRow, standIns := [], harness := (true, "5b171aca9f4e82b2ae64e7692616f746bc0ee709d1399d49a9f0e3a89b4748c6"), looks := false }, kinds := [], alts := [], laidByText := true, laidKinds := [.data, .data, .data], laidTests := true, laidLooks := .later }
def FnExactVecTextUptoCardSaid : Prop := Claim7.holds Tryd.pinned (.plain (OpenSpec.upto fnExactVecTextSpec)) fnExactVecTextUptoCard

/-- THE SECOND FORM's CARD OF 'laws.FnExactNumber'. -/
def fnExactNumberUptoCard : Claim7 := { stood := { row := fnExactNumberUptoRow, standIns := [], harness := (true, "5b171aca9f4e82b2ae64e7692616f746bc0ee709d1399d49a9f0e3a89b4748c6"), looks := false }, kinds := [], alts := [], laidByText := true, laidKinds := [.data, .data, .data], laidTests := true, laidLooks := .later }
def FnExactNumberUptoCardSaid : Prop := Claim7.holds Tryd.pinned (.plain (OpenSpec.upto fnExactNumberSpec)) fnExactNumberUptoCard
end Rows
end Go.Proofs.YtjmkbmpfknhcdaaDoor
