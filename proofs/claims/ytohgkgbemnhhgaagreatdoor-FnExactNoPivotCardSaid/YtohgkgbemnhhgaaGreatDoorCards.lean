/-
  DERIVED. GIVEN WITH THE SEED: THE CARDS: each row of YtohgkgbemnhhgaaGreatDoorRows.lean that lists a variable, with what it lists TIED to the program's text (the seventh form; the later family's looks); each row that meets fmt, with fmt's text TOLD by the authors' own Lean function (tested against real Go, not proved from fmt's source: count such statements apart). THE CARD IS WHAT COUNTS. Prove the row's statement (the work); the ties are given (YtohgkgbemnhhgaaGreatDoorTie.lean); close each card by the builder's one call (the guide's Derived/Test/ToyasCard.lean, 'card_holds'). Laid BY PROGRAM, IN A SANDBOX (cutbox-door.mjs). By AI agents, Wed Nov 11 2026. No macro, syntax, notation, axiom, sorry.
-/
import Derived.Test.YtohgkgbemnhhgaaGreatDoorRows
import GoSem.ClaimSeven
namespace Go.Proofs.YtohgkgbemnhhgaaGreatDoor
namespace Rows

/-- THE TIED CARD OF 'laws.FnExactNoPivot'. -/
def fnExactNoPivotCard : Claim7 := { stood := { row := fnExactNoPivotRow, standIns := [], harness := (true, "ee136bd19cbfa61fab4a55b77e20786f14a312049e5b8d79dfb7857ed8874c39"), looks := false }, kinds := [], alts := [], laidByText := true, laidKinds := [.data, .pinned], laidTests := true, laidLooks := .later }
def FnExactNoPivotCardSaid : Prop := Claim7.holds Tryz.pinned (.plain (OpenSpec.ofChange fnExactNoPivotSpec)) fnExactNoPivotCard

/-- THE SECOND FORM's CARD OF 'laws.FnExactNoPivot'. -/
def fnExactNoPivotUptoCard : Claim7 := { stood := { row := fnExactNoPivotUptoRow, standIns := [], harness := (true, "ee136bd19cbfa61fab4a55b77e20786f14a312049e5b8d79dfb7857ed8874c39"), looks := false }, kinds := [], alts := [], laidByText := true, laidKinds := [.data, .pinned], laidTests := true, laidLooks := .later }
def FnExactNoPivotUptoCardSaid : Prop := Claim7.holds Tryz.pinned (.plain (OpenSpec.upto fnExactNoPivotSpec)) fnExactNoPivotUptoCard
end Rows
end Go.Proofs.YtohgkgbemnhhgaaGreatDoor
