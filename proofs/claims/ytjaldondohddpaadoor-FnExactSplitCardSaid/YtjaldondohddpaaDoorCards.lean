/-
  DERIVED. GIVEN WITH THE SEED: THE CARDS: each row of YtjaldondohddpaaDoorRows.lean that lists a variable, with what it lists TIED to the program's text (the seventh form; the later family's looks); each row that meets fmt, with fmt's text TOLD by the authors' own Lean function (tested against real Go, not proved from fmt's source: count such statements apart). THE CARD IS WHAT COUNTS. Prove the row's statement (the work); the ties are given (YtjaldondohddpaaDoorTie.lean); close each card by the builder's one call (the guide's Derived/Test/ToyasCard.lean, 'card_holds'). Laid BY PROGRAM, IN A SANDBOX (cutbox-door.mjs). By AI agents, Wed Nov 11 2026. No macro, syntax, notation, axiom, sorry.
-/
import Derived.Test.YtjaldondohddpaaDoorRows
import GoSem.ClaimSeven
namespace Go.Proofs.YtjaldondohddpaaDoor
namespace Rows

/-- THE TIED CARD OF 'laws.FnExactOutText'. -/
def fnExactOutTextCard : Claim7 := { stood := { row := fnExactOutTextRow, standIns := [], harness := (true, "47d1e98a0e07842eef39e0cc3d131fdeb3ffb359438ebf13d096f48c31056d62"), looks := false }, kinds := [], alts := [], laidByText := true, laidKinds := [.data, .data, .data], laidTests := true, laidLooks := .later }
def FnExactOutTextCardSaid : Prop := Claim7.holds Tryd.pinned (.plain (OpenSpec.ofChange fnExactOutTextSpec)) fnExactOutTextCard

/-- THE TIED CARD OF 'laws.FnExactSplit'. -/
def fnExactSplitCard : Claim7 := { stood := { row := fnExactSplitRow, standIns := [], harness := (true, "47d1e98a0e07842eef39e0cc3d131fdeb3ffb359438ebf13d096f48c31056d62"), looks := false }, kinds := [], alts := [], laidByText := true, laidKinds := [.data, .pinned], laidTests := true, laidLooks := .later }
def FnExactSplitCardSaid : Prop := Claim7.holds Tryd.pinned (.plain (OpenSpec.ofChange fnExactSplitSpec)) fnExactSplitCard

/-- THE TIED CARD OF 'laws.FnExactInText'. -/
def fnExactInTextCard : Claim7 := { stood := { row := fnExactInTextRow, standIns := [], harness := (true, "47d1e98a0e07842eef39e0cc3d131fdeb3ffb359438ebf13d096f48c31056d62"), looks := false }, kinds := [], alts := [], laidByText := true, laidKinds := [.data, .data, .data], laidTests := true, laidLooks := .later }
def FnExactInTextCardSaid : Prop := Claim7.holds Tryd.pinned (.plain (OpenSpec.ofChange fnExactInTextSpec)) fnExactInTextCard

/-- THE TIED CARD OF 'laws.FnVecs'. -/
def fnVecsCard : Claim7 := { stood := { row := fnVecsRow, standIns := [], harness := (true, "47d1e98a0e07842eef39e0cc3d131fdeb3ffb359438ebf13d096f48c31056d62"), looks := false }, kinds := [], alts := [], laidByText := true, laidKinds := [.data, .data, .data], laidTests := true, laidLooks := .later }
def FnVecsCardSaid : Prop := Claim7.holds Tryd.pinned (.plain (OpenSpec.ofChange fnVecsSpec)) fnVecsCard

/-- THE SECOND FORM's CARD OF 'laws.FnExactOutText'. -/
def fnExactOutTextUptoCard : Claim7 := { stood := { row := fnExactOutTextUptoRow, standIns := [], harness := (true, "47d1e98a0e07842eef39e0cc3d131fdeb3ffb359438ebf13d096f48c31056d62"), looks := false }, kinds := [], alts := [], laidByText := true, laidKinds := [.data, .data, .data], laidTests := true, laidLooks := .later }
def FnExactOutTextUptoCardSaid : Prop := Claim7.holds Tryd.pinned (.plain (OpenSpec.upto fnExactOutTextSpec)) fnExactOutTextUptoCard

/-- THE SECOND FORM's CARD OF 'laws.FnExactSplit'. -/
def fnExactSplitUptoCard : Claim7 := { stood := { row := fnExactSplitUptoRow, standIns := [], harness := (true, "47d1e98a0e07842eef39e0cc3d131fdeb3ffb359438ebf13d096f48c31056d62"), looks := false }, kinds := [], alts := [], laidByText := true, laidKinds := [.data, .pinned], laidTests := true, laidLooks := .later }
def FnExactSplitUptoCardSaid : Prop := Claim7.holds Tryd.pinned (.plain (OpenSpec.upto fnExactSplitSpec)) fnExactSplitUptoCard

/-- THE SECOND FORM's CARD OF 'laws.FnExactInText'. -/
def fnExactInTextUptoCard : Claim7 := { stood := { row := fnExactInTextUptoRow, standIns := [], harness := (true, "47d1e98a0e07842eef39e0cc3d131fdeb3ffb359438ebf13d096f48c31056d62"), looks := false }, kinds := [], alts := [], laidByText := true, laidKinds := [.data, .data, .data], laidTests := true, laidLooks := .later }
def FnExactInTextUptoCardSaid : Prop := Claim7.holds Tryd.pinned (.plain (OpenSpec.upto fnExactInTextSpec)) fnExactInTextUptoCard

/-- THE SECOND FORM's CARD OF 'laws.FnVecs'. -/
def fnVecsUptoCard : Claim7 := { stood := { row := fnVecsUptoRow, standIns := [], harness := (true, "47d1e98a0e07842eef39e0cc3d131fdeb3ffb359438ebf13d096f48c31056d62"), looks := false }, kinds := [], alts := [], laidByText := true, laidKinds := [.data, .data, .data], laidTests := true, laidLooks := .later }
def FnVecsUptoCardSaid : Prop := Claim7.holds Tryd.pinned (.plain (OpenSpec.upto fnVecsSpec)) fnVecsUptoCard
end Rows
end Go.Proofs.YtjaldondohddpaaDoor
