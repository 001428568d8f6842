/-
  DERIVED. GIVEN WITH THE SEED: THE CARDS: each row of YtaghikdjjoaebaaGreatDoorRows.lean that lists a variable, with what it lists TIED to the program's text (the seventh form; the later family's looks); each row that meets fmt, with fmt's text TOLD by the authors' own Lean function (tested against real Go, not proved from fmt's source: count such statements apart). THE CARD IS WHAT COUNTS. Prove the row's statement (the work); the ties are given (YtaghikdjjoaebaaGreatDoorTie.lean); close each card by the builder's one call (the guide's Derived/Test/ToyasCard.lean, 'card_holds'). Laid BY PROGRAM, IN A SANDBOX (cutbox-door.mjs). By AI agents, Wed Nov 11 2026. No macro, syntax, notation, axiom, sorry.
-/
import Derived.Test.YtaghikdjjoaebaaGreatDoorRows
import GoSem.ClaimSeven
namespace Go.Proofs.YtaghikdjjoaebaaGreatDoor
namespace Rows

/-- THE TIED CARD OF 'laws.FnExactOpenSessions'. -/
def fnExactOpenSessionsCard : Claim7 := { stood := { row := fnExactOpenSessionsRow, standIns := [], harness := (true, "eb6a799bafb56ecf7bacfd88c44d32a0c95c4b9486876b65dab1c68a554bfd07"), looks := false }, kinds := [], alts := [], laidByText := true, laidKinds := [.data, .pinned], laidTests := true, laidLooks := .later }
def FnExactOpenSessionsCardSaid : Prop := Claim7.holds Tryz.pinned (.plain (OpenSpec.ofChange fnExactOpenSessionsSpec)) fnExactOpenSessionsCard

/-- THE SECOND FORM's CARD OF 'laws.FnExactOpenSessions'. -/
def fnExactOpenSessionsUptoCard : Claim7 := { stood := { row := fnExactOpenSessionsUptoRow, standIns := [], harness := (true, "eb6a799bafb56ecf7bacfd88c44d32a0c95c4b9486876b65dab1c68a554bfd07"), looks := false }, kinds := [], alts := [], laidByText := true, laidKinds := [.data, .pinned], laidTests := true, laidLooks := .later }
def FnExactOpenSessionsUptoCardSaid : Prop := Claim7.holds Tryz.pinned (.plain (OpenSpec.upto fnExactOpenSessionsSpec)) fnExactOpenSessionsUptoCard
end Rows
end Go.Proofs.YtaghikdjjoaebaaGreatDoor
