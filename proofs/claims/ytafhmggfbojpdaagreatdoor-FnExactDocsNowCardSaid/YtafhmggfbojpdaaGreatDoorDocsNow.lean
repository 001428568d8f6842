/- FnExactDocsNow holds of the given program for every input, as its card says: the row, proved by walking all the code that the law reaches and by the law over what that code computes; the card, by the given tie. Conditions: those of the given card alone. -/
import Derived.Test.YtafhmggfbojpdaaGreatDoorLa
import Derived.Test.YtafhmggfbojpdaaGreatDoorDocsNowB
import Derived.Test.YtafhmggfbojpdaaGreatDoorCards
import Derived.Test.YtafhmggfbojpdaaGreatDoorTie
import Derived.SevenTiedAt
import Derived.Lay
import Derived.LaidLaws
import Derived.MakeChecks
import Derived.JoinedOf
import Derived.RowKit
import Derived.Stop.Joined
namespace Go.Proofs.YtafhmggfbojpdaaGreatDoor
open Go Go.V

theorem rowOwn : ownKnob Tryz.prog.godebug = none := by kernel_rfl
theorem rowParams : Tryz.f4.params.toList = [26, 9] := by rw [Tryz.params4]
theorem rowBool : Tryz.prog.underlying 4 = some .bool := by kernel_rfl
theorem rowRes : Tryz.f4.resultTypes = #[4] := by kernel_rfl
theorem rowTys : TyAll Tryz.prog [yStore, .str] Tryz.f4.params.toList := by
  rw [rowParams]
  exact ⟨(tysC_ok (env := E4) tys_ok rfl rfl).1 26 _ rfl, rfl, ⟨(tysC_ok (env := E4) tys_ok rfl rfl).1 9 _ rfl, rfl, trivial⟩⟩
theorem rowLaw (xs : Args (roAll [yStore, .str])) (h : WfAll [yStore, .str] xs) : ∃ r, C4.F xs = some r ∧ r.1 = true := ⟨_, fnExactDocsNow_law xs.1 xs.2.1 (wfStore xs.1 h.1), rfl⟩

set_option maxRecDepth 100000 in
theorem rowLifted (os : Os) (started : os.Started) (H : Type) (enc : TypeId × Value → H) :
    ReturnsInHanded {} Tryz.checked os 4 .any (fun w args => (Rows.fnExactDocsNowSpec.pre enc Tryz.prog Tryz.f4 [] false w args ∧ laidMetH Tryz.prog Rows.fnExactDocsNowRow.laid w) ∧ sizedMet enc Tryz.prog Tryz.f4 (OpenSpec.ofChange Rows.fnExactDocsNowSpec) false w args)
      (Rows.fnExactDocsNowSpec.post enc Tryz.prog Tryz.f4 false true false false) := by
  refine returnsInHanded_of_change_and (C := Tryz.checked) (X := fun w _ => laidMetH Tryz.prog Rows.fnExactDocsNowRow.laid w) (fun _ _ _ hh h => h.of_heap hh) rowOwn started (by kernel_rfl) Tryz.func4
    (ChangeSpec.witness_shaped (enc := enc) (C := Tryz.checked) (os := os) (X := fun w _ => laidMetH Tryz.prog Rows.fnExactDocsNowRow.laid w) false (World.laidAll Tryz.prog os Rows.fnExactDocsNowRow.laid) #[.agg #[.slice none 0 0, .slice none 0 0, .slice none 0 0, .int .i64 0], .string ⟨#[]⟩] 8 (World.laidAll_os _ _ _)
      (World.shaped_of_ZipB (by kernel_rfl) (by kernel_rfl)) (by kernel_rfl) (by kernel_rfl) (by kernel_rfl)
      (by rw [MakeChecks.laidMetH_plain _ _ _ (by kernel_rfl)]; exact laidMet_laidAll _ (by kernel_rfl) (by kernel_rfl))) ?_
  intro W base args ds gs before hval hW _ _ _ _
  exact law_contract (tb := 4) C4_ok rowLaw rowTys rowRes rowBool rfl (fun ds hds => by
    match ds, hds with
    | [d0, d1], _ => rfl) W base args ds gs before hval hW

theorem row_holds : Rows.FnExactDocsNowSaid :=
  OpenClaim.holds_of_wide 4 Tryz.f4 rfl rfl rfl rfl rfl rfl rfl ⟨rfl, rfl, rfl, rfl, rfl⟩ rfl rfl rfl rfl rfl (by kernel_rfl) Tryz.func4 rowFacts rowInst rowWrap
    (fun os started H enc _ => rowLifted os started H enc)

theorem fnExactDocsNow_card_holds : Rows.FnExactDocsNowCardSaid :=
  Claim7.holds_tied_plain_at .later [] [.data, .pinned] true (true, "f17bcab0ca47417b47febf43a81856ba34fbfc84d3d1c391382e997aea86679c") false row_holds (fun _ h => by cases h) (by kernel_rfl) (fun _ h => by cases h) fnExactDocsNow_row_tie rfl ⟨rfl, rfl⟩ (by kernel_rfl) rfl
    (fun f fn hf hfn => by
      obtain rfl : f = 4 := Option.some.inj ((show Tryz.prog.funcNamed "loop.example/g00380/laws.FnExactDocsNow" = some 4 by kernel_rfl).symm.trans hf) |>.symm
      obtain rfl : fn = Tryz.f4 := (Option.some.inj (Tryz.func4.symm.trans hfn)).symm
      exact ⟨by kernel_rfl, fun j t ht => by
        have hm : t ∈ [26, 9] := by rw [← rowParams]; simpa using Array.mem_of_getElem? ht
        have hall : ([26, 9].all fun u => !Tryz.prog.wantsStandIn u) = true := by kernel_rfl
        exact (show Tryz.prog.wantsStandIn t = false by simpa using List.all_eq_true.1 hall t hm)⟩)
    (by kernel_rfl)
#print axioms fnExactDocsNow_card_holds
end Go.Proofs.YtafhmggfbojpdaaGreatDoor
