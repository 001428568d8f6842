/-
  DERIVED. GIVEN WITH THE SEED: THE CARDS: each row of YtajpnkedfdcggaaGreatDoorRows.lean that lists a variable, with what it lists TIED to the program's text (the seventh form; the later family's looks); each row that meets fmt, with fmt's text TOLD by the authors' own Lean function (tested against real Go, not proved from fmt's source: count such statements apart). THE CARD IS WHAT COUNTS. Prove the row's statement (the work); the ties are given (YtajpnkedfdcggaaGreatDoorTie.lean); close each card by the builder's one call (the guide's Derived/Test/ToyasCard.lean, 'card_holds'). Laid BY PROGRAM, IN A SANDBOX (cutbox-door.mjs). By AI agents, Wed Nov 11 2026. No macro, syntax, notation, axiom, sorry.
-/
import Derived.Test.YtajpnkedfdcggaaGreatDoorRows
import GoSem.ClaimSeven
namespace Go.Proofs.YtajpnkedfdcggaaGreatDoor
namespace Rows

/-- THE TIED CARD OF 'laws.FnExactOldestSnap'. -/
def fnExactOldestSnapCard : Claim7 := { stood := { row := fnExactOldestSnapRow, standIns := [], harness := (true, "7c333604dca8a5fb4513f2f533e9f475d356a204c171633b2f6f07d9ff01cef7"), looks := false }, kinds := [], alts := [], laidByText := true, laidKinds := [.data, .pinned], laidTests := true, laidLooks := .later }
def FnExactOldestSnapCardSaid : Prop := Claim7.holds Tryz.pinned (.plain (OpenSpec.ofChange fnExactOldestSnapSpec)) fnExactOldestSnapCard

/-- THE TIED CARD OF 'laws.FnExactSettled'. -/
def fnExactSettledCard : Claim7 := { stood := { row := fnExactSettledRow, standIns := [], harness := (true, "7c333604dca8a5fb4513f2f533e9f475d356a204c171633b2f6f07d9ff01cef7"), looks := false }, kinds := [], alts := [], laidByText := true, laidKinds := [.data, .pinned], laidTests := true, laidLooks := .later }
def FnExactSettledCardSaid : Prop := Claim7.holds Tryz.pinned (.plain (OpenSpec.ofChange fnExactSettledSpec)) fnExactSettledCard

/-- THE SECOND FORM's CARD OF 'laws.FnExactOldestSnap'. -/
def fnExactOldestSnapUptoCard : Claim7 := { stood := { row := fnExactOldestSnapUptoRow, standIns := [], harness := (true, "7c333604dca8a5fb4513f2f533e9f475d356a204c171633b2f6f07d9ff01cef7"), looks := false }, kinds := [], alts := [], laidByText := true, laidKinds := [.data, .pinned], laidTests := true, laidLooks := .later }
def FnExactOldestSnapUptoCardSaid : Prop := Claim7.holds Tryz.pinned (.plain (OpenSpec.upto fnExactOldestSnapSpec)) fnExactOldestSnapUptoCard

/-- THE SECOND FORM's CARD OF 'laws.FnExactSettled'. -/
def fnExactSettledUptoCard : Claim7 := { stood := { row := fnExactSettledUptoRow, standIns := [], harness := (true, "7c333604dca8a5fb4513f2f533e9f475d356a204c171633b2f6f07d9ff01cef7"), looks := false }, kinds := [], alts := [], laidByText := true, laidKinds := [.data, .pinned], laidTests := true, laidLooks := .later }
def FnExactSettledUptoCardSaid : Prop := Claim7.holds Tryz.pinned (.plain (OpenSpec.upto fnExactSettledSpec)) fnExactSettledUptoCard
end Rows
end Go.Proofs.YtajpnkedfdcggaaGreatDoor
