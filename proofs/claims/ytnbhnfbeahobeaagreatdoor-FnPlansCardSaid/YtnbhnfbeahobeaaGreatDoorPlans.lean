/- FnPlans holds of the given program for every input, as its card says: the row, proved by walking all the code that the law reaches and by the law over what that code computes; the card, by the given tie. Conditions: those of the given card alone. -/
import Derived.Test.YtnbhnfbeahobeaaGreatDoorLb
import Derived.Test.YtnbhnfbeahobeaaGreatDoorPlansF
import Derived.Test.YtnbhnfbeahobeaaGreatDoorCards
import Derived.Test.YtnbhnfbeahobeaaGreatDoorTie
import Derived.SevenTiedAt
import Derived.Lay
import Derived.LaidLaws
import Derived.MakeChecks
import Derived.JoinedOf
import Derived.RowKit
import Derived.Stop.Joined
namespace Go.Proofs.YtnbhnfbeahobeaaGreatDoor
open Go Go.V

theorem rowOwn : ownKnob Tryz.prog.godebug = none := by kernel_rfl
theorem rowParams : Tryz.f3.params.toList = [22, 22] := by rw [Tryz.params3]
theorem rowBool : Tryz.prog.underlying 4 = some .bool := by kernel_rfl
theorem rowRes : Tryz.f3.resultTypes = #[4] := by kernel_rfl
theorem rowTys : TyAll Tryz.prog [.slice (.int .u8), .slice (.int .u8)] Tryz.f3.params.toList := by
  rw [rowParams]
  exact ⟨(tysC_ok (env := E3) tys_ok rfl rfl).1 22 _ rfl, rfl, ⟨(tysC_ok (env := E3) tys_ok rfl rfl).1 22 _ rfl, rfl, trivial⟩⟩
theorem rowLaw (xs : Args (roAll [.slice (.int .u8), .slice (.int .u8)])) (h : WfAll [.slice (.int .u8), .slice (.int .u8)] xs) : ∃ r, C3.F xs = some r ∧ r.1 = true := ⟨_, fnPlans_law xs.1 xs.2.1 (wfBytes xs.1 h.1) (wfBytes xs.2.1 h.2.1), rfl⟩

set_option maxRecDepth 100000 in
theorem rowLifted (os : Os) (started : os.Started) (H : Type) (enc : TypeId × Value → H) :
    ReturnsInHanded {} Tryz.checked os 3 .any (fun w args => (Rows.fnPlansSpec.pre enc Tryz.prog Tryz.f3 [] false w args ∧ laidMetH Tryz.prog Rows.fnPlansRow.laid w) ∧ sizedMet enc Tryz.prog Tryz.f3 (OpenSpec.ofChange Rows.fnPlansSpec) false w args)
      (Rows.fnPlansSpec.post enc Tryz.prog Tryz.f3 false true false false) := by
  refine returnsInHanded_of_change_and (C := Tryz.checked) (X := fun w _ => laidMetH Tryz.prog Rows.fnPlansRow.laid w) (fun _ _ _ hh h => h.of_heap hh) rowOwn started (by kernel_rfl) Tryz.func3
    (ChangeSpec.witness_shaped (enc := enc) (C := Tryz.checked) (os := os) (X := fun w _ => laidMetH Tryz.prog Rows.fnPlansRow.laid w) false (World.laidAll Tryz.prog os Rows.fnPlansRow.laid) #[.slice none 0 0, .slice none 0 0] 8 (World.laidAll_os _ _ _)
      (World.shaped_of_ZipB (by kernel_rfl) (by kernel_rfl)) (by kernel_rfl) (by kernel_rfl) (by kernel_rfl)
      (by rw [MakeChecks.laidMetH_plain _ _ _ (by kernel_rfl)]; exact laidMet_laidAll _ (by kernel_rfl) (by kernel_rfl))) ?_
  intro W base args ds gs before hval hW _ _ _ _
  exact law_contract (tb := 4) C3_ok rowLaw rowTys rowRes rowBool rfl (fun ds hds => by
    match ds, hds with
    | [d0, d1], _ => rfl) W base args ds gs before hval hW

theorem row_holds : Rows.FnPlansSaid :=
  OpenClaim.holds_of_wide 3 Tryz.f3 rfl rfl rfl rfl rfl rfl rfl ⟨rfl, rfl, rfl, rfl, rfl⟩ rfl rfl rfl rfl rfl cardF7 Tryz.func3 rowFacts rowInst rowWrap
    (fun os started H enc _ => rowLifted os started H enc)

theorem fnPlans_card_holds : Rows.FnPlansCardSaid :=
  Claim7.holds_tied_plain_at .later [] [.data, .pinned] true (true, "6b73304a3d7f6f94fa2f8f2a0fd6283d769a78ab7576137e433c668f93354e80") false row_holds (fun _ h => by cases h) cardF1 (fun _ h => by cases h) fnPlans_row_tie rfl ⟨rfl, rfl⟩ cardF2 rfl
    (fun f fn hf hfn => by
      obtain rfl : f = 3 := Option.some.inj (cardF3.symm.trans hf) |>.symm
      obtain rfl : fn = Tryz.f3 := (Option.some.inj (Tryz.func3.symm.trans hfn)).symm
      exact ⟨cardF4, fun j t ht => by
        have hm : t ∈ [22, 22] := by rw [← rowParams]; simpa using Array.mem_of_getElem? ht
        exact (show Tryz.prog.wantsStandIn t = false by simpa using List.all_eq_true.1 cardF5 t hm)⟩)
    cardF6
#print axioms fnPlans_card_holds
end Go.Proofs.YtnbhnfbeahobeaaGreatDoor
