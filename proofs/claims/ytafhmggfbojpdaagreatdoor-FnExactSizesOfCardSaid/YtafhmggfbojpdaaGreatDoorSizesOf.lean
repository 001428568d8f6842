/- FnExactSizesOf holds of the given program for every input, as its card says: the row, proved by walking all the code that the law reaches and by the law over what that code computes; the card, by the given tie. Conditions: those of the given card alone. -/
import Derived.Test.YtafhmggfbojpdaaGreatDoorLa
import Derived.Test.YtafhmggfbojpdaaGreatDoorSizesOfB
import Derived.Test.YtafhmggfbojpdaaGreatDoorCards
import Derived.Test.YtafhmggfbojpdaaGreatDoorTie
import Derived.SevenTiedAt
import Derived.Lay
import Derived.LaidLaws
import Derived.MakeChecks
import Derived.JoinedOf
import Derived.RowKit
import Derived.Stop.Joined
namespace Go.Proofs.YtafhmggfbojpdaaGreatDoor
open Go Go.V

theorem rowOwn : ownKnob Tryz.prog.godebug = none := by kernel_rfl
theorem rowParams : Tryz.f3.params.toList = [26] := by rw [Tryz.params3]
theorem rowBool : Tryz.prog.underlying 4 = some .bool := by kernel_rfl
theorem rowRes : Tryz.f3.resultTypes = #[4] := by kernel_rfl
theorem rowTys : TyAll Tryz.prog [yStore] Tryz.f3.params.toList := by
  rw [rowParams]
  exact ⟨(tysC_ok (env := E3) tys_ok rfl rfl).1 26 _ rfl, rfl, trivial⟩
theorem rowLaw (xs : Args (roAll [yStore])) (h : WfAll [yStore] xs) : ∃ r, C3.F xs = some r ∧ r.1 = true := ⟨_, fnExactSizesOf_law xs.1 (wfStore xs.1 h.1), rfl⟩

set_option maxRecDepth 100000 in
theorem rowLifted (os : Os) (started : os.Started) (H : Type) (enc : TypeId × Value → H) :
    ReturnsInHanded {} Tryz.checked os 3 .any (fun w args => (Rows.fnExactSizesOfSpec.pre enc Tryz.prog Tryz.f3 [] false w args ∧ laidMetH Tryz.prog Rows.fnExactSizesOfRow.laid w) ∧ sizedMet enc Tryz.prog Tryz.f3 (OpenSpec.ofChange Rows.fnExactSizesOfSpec) false w args)
      (Rows.fnExactSizesOfSpec.post enc Tryz.prog Tryz.f3 false true false false) := by
  refine returnsInHanded_of_change_and (C := Tryz.checked) (X := fun w _ => laidMetH Tryz.prog Rows.fnExactSizesOfRow.laid w) (fun _ _ _ hh h => h.of_heap hh) rowOwn started (by kernel_rfl) Tryz.func3
    (ChangeSpec.witness_shaped (enc := enc) (C := Tryz.checked) (os := os) (X := fun w _ => laidMetH Tryz.prog Rows.fnExactSizesOfRow.laid w) false (World.laidAll Tryz.prog os Rows.fnExactSizesOfRow.laid) #[.agg #[.slice none 0 0, .slice none 0 0, .slice none 0 0, .int .i64 0]] 8 (World.laidAll_os _ _ _)
      (World.shaped_of_ZipB (by kernel_rfl) (by kernel_rfl)) (by kernel_rfl) (by kernel_rfl) (by kernel_rfl)
      (by rw [MakeChecks.laidMetH_plain _ _ _ (by kernel_rfl)]; exact laidMet_laidAll _ (by kernel_rfl) (by kernel_rfl))) ?_
  intro W base args ds gs before hval hW _ _ _ _
  exact law_contract (tb := 4) C3_ok rowLaw rowTys rowRes rowBool rfl (fun ds hds => by
    match ds, hds with
    | [d0], _ => rfl) W base args ds gs before hval hW

theorem row_holds : Rows.FnExactSizesOfSaid :=
  OpenClaim.holds_of_wide 3 Tryz.f3 rfl rfl rfl rfl rfl rfl rfl ⟨rfl, rfl, rfl, rfl, rfl⟩ rfl rfl rfl rfl rfl (by kernel_rfl) Tryz.func3 rowFacts rowInst rowWrap
    (fun os started H enc _ => rowLifted os started H enc)

theorem fnExactSizesOf_card_holds : Rows.FnExactSizesOfCardSaid :=
  Claim7.holds_tied_plain_at .later [] [.data, .pinned] true (true, "f17bcab0ca47417b47febf43a81856ba34fbfc84d3d1c391382e997aea86679c") false row_holds (fun _ h => by cases h) (by kernel_rfl) (fun _ h => by cases h) fnExactSizesOf_row_tie rfl ⟨rfl, rfl⟩ (by kernel_rfl) rfl
    (fun f fn hf hfn => by
      obtain rfl : f = 3 := Option.some.inj ((show Tryz.prog.funcNamed "loop.example/g00380/laws.FnExactSizesOf" = some 3 by kernel_rfl).symm.trans hf) |>.symm
      obtain rfl : fn = Tryz.f3 := (Option.some.inj (Tryz.func3.symm.trans hfn)).symm
      exact ⟨by kernel_rfl, fun j t ht => by
        have hm : t ∈ [26] := by rw [← rowParams]; simpa using Array.mem_of_getElem? ht
        have hall : ([26].all fun u => !Tryz.prog.wantsStandIn u) = true := by kernel_rfl
        exact (show Tryz.prog.wantsStandIn t = false by simpa using List.all_eq_true.1 hall t hm)⟩)
    (by kernel_rfl)
#print axioms fnExactSizesOf_card_holds
end Go.Proofs.YtafhmggfbojpdaaGreatDoor
