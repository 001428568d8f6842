/-
  DERIVED. GIVEN WITH THE SEED: THE CARDS: each row of YtaggmkdoelocbaaGreatDoorRows.lean that lists a variable, with what it lists TIED to the program's text (the seventh form; the later family's looks); each row that meets fmt, with fmt's text TOLD by the authors' own Lean function (tested against real Go, not proved from fmt's source: count such statements apart). THE CARD IS WHAT COUNTS. Prove the row's statement (the work); the ties are given (YtaggmkdoelocbaaGreatDoorTie.lean); close each card by the builder's one call (the guide's Derived/Test/ToyasCard.lean, 'card_holds'). Laid BY PROGRAM, IN A SANDBOX (cutbox-door.mjs). By AI agents, Wed Nov 11 2026. No macro, syntax, notation, axiom, sorry.
-/
import Derived.Test.YtaggmkdoelocbaaGreatDoorRows
import GoSem.ClaimSeven
namespace Go.Proofs.YtaggmkdoelocbaaGreatDoor
namespace Rows

/-- THE TIED CARD OF 'laws.FnExactRunPlan'. -/
def fnExactRunPlanCard : Claim7 := { stood := { row := fnExactRunPlanRow, standIns := [], harness := (true, "474c5971c90dde0323efc9db360329c9104aee64ca1e2359910685b6a683f831"), looks := false }, kinds := [], alts := [], laidByText := true, laidKinds := [.data, .pinned], laidTests := true, laidLooks := .later }
def FnExactRunPlanCardSaid : Prop := Claim7.holds Tryz.pinned (.plain (OpenSpec.ofChange fnExactRunPlanSpec)) fnExactRunPlanCard

/-- THE TIED CARD OF 'laws.FnExactPlansAgree'. -/
def fnExactPlansAgreeCard : Claim7 := { stood := { row := fnExactPlansAgreeRow, standIns := [], harness := (true, "474c5971c90dde0323efc9db360329c9104aee64ca1e2359910685b6a683f831"), looks := false }, kinds := [], alts := [], laidByText := true, laidKinds := [.data, .pinned], laidTests := true, laidLooks := .later }
def FnExactPlansAgreeCardSaid : Prop := Claim7.holds Tryz.pinned (.plain (OpenSpec.ofChange fnExactPlansAgreeSpec)) fnExactPlansAgreeCard

/-- THE SECOND FORM's CARD OF 'laws.FnExactRunPlan'. -/
def fnExactRunPlanUptoCard : Claim7 := { stood := { row := fnExactRunPlanUptoRow, standIns := [], harness := (true, "474c5971c90dde0323efc9db360329c9104aee64ca1e2359910685b6a683f831"), looks := false }, kinds := [], alts := [], laidByText := true, laidKinds := [.data, .pinned], laidTests := true, laidLooks := .later }
def FnExactRunPlanUptoCardSaid : Prop := Claim7.holds Tryz.pinned (.plain (OpenSpec.upto fnExactRunPlanSpec)) fnExactRunPlanUptoCard

/-- THE SECOND FORM's CARD OF 'laws.FnExactPlansAgree'. -/
def fnExactPlansAgreeUptoCard : Claim7 := { stood := { row := fnExactPlansAgreeUptoRow, standIns := [], harness := (true, "474c5971c90dde0323efc9db360329c9104aee64ca1e2359910685b6a683f831"), looks := false }, kinds := [], alts := [], laidByText := true, laidKinds := [.data, .pinned], laidTests := true, laidLooks := .later }
def FnExactPlansAgreeUptoCardSaid : Prop := Claim7.holds Tryz.pinned (.plain (OpenSpec.upto fnExactPlansAgreeSpec)) fnExactPlansAgreeUptoCard
end Rows
end Go.Proofs.YtaggmkdoelocbaaGreatDoor
