/-
  DERIVED. GIVEN WITH THE SEED: THE CARDS: each row of YtafhmggfbojpdaaGreatDoorRows.lean that lists a variable, with what it lists TIED to the program's text (the seventh form; the later family's looks); each row that meets fmt, with fmt's text TOLD by the authors' own Lean function (tested against real Go, not proved from fmt's source: count such statements apart). THE CARD IS WHAT COUNTS. Prove the row's statement (the work); the ties are given (YtafhmggfbojpdaaGreatDoorTie.lean); close each card by the builder's one call (the guide's Derived/Test/ToyasCard.lean, 'card_holds'). Laid BY PROGRAM, IN A SANDBOX (cutbox-door.mjs). By AI agents, Wed Nov 11 2026. No macro, syntax, notation, axiom, sorry.
-/
import Derived.Test.YtafhmggfbojpdaaGreatDoorRows
import GoSem.ClaimSeven
namespace Go.Proofs.YtafhmggfbojpdaaGreatDoor
namespace Rows

/-- THE TIED CARD OF 'laws.FnExactSizesOf'. -/
def fnExactSizesOfCard : Claim7 := { stood := { row := fnExactSizesOfRow, standIns := [], harness := (true, "f17bcab0ca47417b47febf43a81856ba34fbfc84d3d1c391382e997aea86679c"), looks := false }, kinds := [], alts := [], laidByText := true, laidKinds := [.data, .pinned], laidTests := true, laidLooks := .later }
def FnExactSizesOfCardSaid : Prop := Claim7.holds Tryz.pinned (.plain (OpenSpec.ofChange fnExactSizesOfSpec)) fnExactSizesOfCard

/-- THE TIED CARD OF 'laws.FnExactDocsNow'. -/
def fnExactDocsNowCard : Claim7 := { stood := { row := fnExactDocsNowRow, standIns := [], harness := (true, "f17bcab0ca47417b47febf43a81856ba34fbfc84d3d1c391382e997aea86679c"), looks := false }, kinds := [], alts := [], laidByText := true, laidKinds := [.data, .pinned], laidTests := true, laidLooks := .later }
def FnExactDocsNowCardSaid : Prop := Claim7.holds Tryz.pinned (.plain (OpenSpec.ofChange fnExactDocsNowSpec)) fnExactDocsNowCard

/-- THE SECOND FORM's CARD OF 'laws.FnExactSizesOf'. -/
def fnExactSizesOfUptoCard : Claim7 := { stood := { row := fnExactSizesOfUptoRow, standIns := [], harness := (true, "f17bcab0ca47417b47febf43a81856ba34fbfc84d3d1c391382e997aea86679c"), looks := false }, kinds := [], alts := [], laidByText := true, laidKinds := [.data, .pinned], laidTests := true, laidLooks := .later }
def FnExactSizesOfUptoCardSaid : Prop := Claim7.holds Tryz.pinned (.plain (OpenSpec.upto fnExactSizesOfSpec)) fnExactSizesOfUptoCard

/-- THE SECOND FORM's CARD OF 'laws.FnExactDocsNow'. -/
def fnExactDocsNowUptoCard : Claim7 := { stood := { row := fnExactDocsNowUptoRow, standIns := [], harness := (true, "f17bcab0ca47417b47febf43a81856ba34fbfc84d3d1c391382e997aea86679c"), looks := false }, kinds := [], alts := [], laidByText := true, laidKinds := [.data, .pinned], laidTests := true, laidLooks := .later }
def FnExactDocsNowUptoCardSaid : Prop := Claim7.holds Tryz.pinned (.plain (OpenSpec.upto fnExactDocsNowSpec)) fnExactDocsNowUptoCard
end Rows
end Go.Proofs.YtafhmggfbojpdaaGreatDoor
