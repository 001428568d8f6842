/-
  DERIVED. GIVEN WITH THE SEED: THE CARDS: each row of YtmegollghdmpfaaGreatDoorRows.lean that lists a variable, with what it lists TIED to the program's text (the seventh form; the later family's looks); each row that meets fmt, with fmt's text TOLD by the authors' own Lean function (tested against real Go, not proved from fmt's source: count such statements apart). THE CARD IS WHAT COUNTS. Prove the row's statement (the work); the ties are given (YtmegollghdmpfaaGreatDoorTie.lean); close each card by the builder's one call (the guide's Derived/Test/ToyasCard.lean, 'card_holds'). Laid BY PROGRAM, IN A SANDBOX (cutbox-door.mjs). By AI agents, Wed Nov 11 2026. No macro, syntax, notation, axiom, sorry.
-/
import Derived.Test.YtmegollghdmpfaaGreatDoorRows
import GoSem.ClaimSeven
namespace Go.Proofs.YtmegollghdmpfaaGreatDoor
namespace Rows

/-- THE TIED CARD OF 'laws.FnExactFindDocs'. -/
def fnExactFindDocsCard : Claim7 := { stood := { row := fnExactFindDocsRow, standIns := [], harness := (true, "32c4630857cc8293ccdf1f8cb8f5cbff8e4783163250e2979e6fb39e14e130ec"), looks := false }, kinds := [], alts := [], laidByText := true, laidKinds := [.data, .pinned], laidTests := true, laidLooks := .later }
def FnExactFindDocsCardSaid : Prop := Claim7.holds Tryz.pinned (.plain (OpenSpec.ofChange fnExactFindDocsSpec)) fnExactFindDocsCard

/-- THE SECOND FORM's CARD OF 'laws.FnExactFindDocs'. -/
def fnExactFindDocsUptoCard : Claim7 := { stood := { row := fnExactFindDocsUptoRow, standIns := [], harness := (true, "32c4630857cc8293ccdf1f8cb8f5cbff8e4783163250e2979e6fb39e14e130ec"), looks := false }, kinds := [], alts := [], laidByText := true, laidKinds := [.data, .pinned], laidTests := true, laidLooks := .later }
def FnExactFindDocsUptoCardSaid : Prop := Claim7.holds Tryz.pinned (.plain (OpenSpec.upto fnExactFindDocsSpec)) fnExactFindDocsUptoCard
end Rows
end Go.Proofs.YtmegollghdmpfaaGreatDoor
