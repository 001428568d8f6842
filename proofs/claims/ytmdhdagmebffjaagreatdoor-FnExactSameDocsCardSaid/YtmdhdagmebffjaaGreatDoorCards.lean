/-
  DERIVED. GIVEN WITH THE SEED: THE CARDS: each row of YtmdhdagmebffjaaGreatDoorRows.lean that lists a variable, with what it lists TIED to the program's text (the seventh form; the later family's looks); each row that meets fmt, with fmt's text TOLD by the authors' own Lean function (tested against real Go, not proved from fmt's source: count such statements apart). THE CARD IS WHAT COUNTS. Prove the row's statement (the work); the ties are given (YtmdhdagmebffjaaGreatDoorTie.lean); close each card by the builder's one call (the guide's Derived/Test/ToyasCard.lean, 'card_holds'). Laid BY PROGRAM, IN A SANDBOX (cutbox-door.mjs). By AI agents, Wed Nov 11 2026. No macro, syntax, notation, axiom, sorry.
-/
import Derived.Test.YtmdhdagmebffjaaGreatDoorRows
import GoSem.ClaimSeven
namespace Go.Proofs.YtmdhdagmebffjaaGreatDoor
namespace Rows

/-- THE TIED CARD OF 'laws.FnExactSameDocs'. -/
def fnExactSameDocsCard : Claim7 := { stood := { row := fnExactSameDocsRow, standIns := [], harness := (true, "a04de434510ddc72c196bc68a1dd80ac4ab958386d8cb53fa86408c14dee6878"), looks := false }, kinds := [], alts := [], laidByText := true, laidKinds := [.data, .pinned], laidTests := true, laidLooks := .later }
def FnExactSameDocsCardSaid : Prop := Claim7.holds Tryz.pinned (.plain (OpenSpec.ofChange fnExactSameDocsSpec)) fnExactSameDocsCard

/-- THE SECOND FORM's CARD OF 'laws.FnExactSameDocs'. -/
def fnExactSameDocsUptoCard : Claim7 := { stood := { row := fnExactSameDocsUptoRow, standIns := [], harness := (true, "a04de434510ddc72c196bc68a1dd80ac4ab958386d8cb53fa86408c14dee6878"), looks := false }, kinds := [], alts := [], laidByText := true, laidKinds := [.data, .pinned], laidTests := true, laidLooks := .later }
def FnExactSameDocsUptoCardSaid : Prop := Claim7.holds Tryz.pinned (.plain (OpenSpec.upto fnExactSameDocsSpec)) fnExactSameDocsUptoCard
end Rows
end Go.Proofs.YtmdhdagmebffjaaGreatDoor
