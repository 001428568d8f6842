/- FnExactFindDocs holds of the given program for every input, as its card says: the row, proved by walking all the code that the law reaches and by the law over what that code computes; the card, by the given tie. Conditions: those of the given card alone. -/
import Derived.Test.YtmegollghdmpfaaGreatDoorLb
import Derived.Test.YtmegollghdmpfaaGreatDoorFindDocsB
import Derived.Test.YtmegollghdmpfaaGreatDoorCards
import Derived.Test.YtmegollghdmpfaaGreatDoorTie
import Derived.SevenTiedAt
import Derived.Lay
import Derived.LaidLaws
import Derived.MakeChecks
import Derived.JoinedOf
import Derived.RowKit
import Derived.Stop.Joined
namespace Go.Proofs.YtmegollghdmpfaaGreatDoor
open Go Go.V

theorem rowOwn : ownKnob Tryz.prog.godebug = none := by kernel_rfl
theorem rowParams : Tryz.f3.params.toList = [28, 29] := by rw [Tryz.params3]
theorem rowBool : Tryz.prog.underlying 4 = some .bool := by kernel_rfl
theorem rowRes : Tryz.f3.resultTypes = #[4] := by kernel_rfl
theorem rowTys : TyAll Tryz.prog [yQuery, .slice yVal] Tryz.f3.params.toList := by
  rw [rowParams]
  exact ⟨(tysC_ok (env := E3) tys_ok rfl rfl).1 28 _ rfl, rfl, ⟨(tysC_ok (env := E3) tys_ok rfl rfl).1 29 _ rfl, rfl, trivial⟩⟩
theorem rowLaw (xs : Args (roAll [yQuery, .slice yVal])) (h : WfAll [yQuery, .slice yVal] xs) : ∃ r, C3.F xs = some r ∧ r.1 = true := ⟨_, fnExactFindDocs_law xs.1 xs.2.1 (wfQuery xs.1 h.1) (wfS (e := yVal) (α := TVal) rfl wfVal h.2.1), rfl⟩

set_option maxRecDepth 100000 in
theorem rowLifted (os : Os) (started : os.Started) (H : Type) (enc : TypeId × Value → H) :
    ReturnsInHanded {} Tryz.checked os 3 .any (fun w args => (Rows.fnExactFindDocsSpec.pre enc Tryz.prog Tryz.f3 [] false w args ∧ laidMetH Tryz.prog Rows.fnExactFindDocsRow.laid w) ∧ sizedMet enc Tryz.prog Tryz.f3 (OpenSpec.ofChange Rows.fnExactFindDocsSpec) false w args)
      (Rows.fnExactFindDocsSpec.post enc Tryz.prog Tryz.f3 false true false false) := by
  refine returnsInHanded_of_change_and (C := Tryz.checked) (X := fun w _ => laidMetH Tryz.prog Rows.fnExactFindDocsRow.laid w) (fun _ _ _ hh h => h.of_heap hh) rowOwn started (by kernel_rfl) Tryz.func3
    (ChangeSpec.witness_shaped (enc := enc) (C := Tryz.checked) (os := os) (X := fun w _ => laidMetH Tryz.prog Rows.fnExactFindDocsRow.laid w) false (World.laidAll Tryz.prog os Rows.fnExactFindDocsRow.laid) #[.agg #[.slice none 0 0, .slice none 0 0, .int .i64 0, .int .i64 0, .slice none 0 0, .string ⟨#[]⟩], .slice none 0 0] 8 (World.laidAll_os _ _ _)
      (World.shaped_of_ZipB (by kernel_rfl) (by kernel_rfl)) (by kernel_rfl) (by kernel_rfl) (by kernel_rfl)
      (by rw [MakeChecks.laidMetH_plain _ _ _ (by kernel_rfl)]; exact laidMet_laidAll _ (by kernel_rfl) (by kernel_rfl))) ?_
  intro W base args ds gs before hval hW _ _ _ _
  exact law_contract (tb := 4) C3_ok rowLaw rowTys rowRes rowBool rfl (fun ds hds => by
    match ds, hds with
    | [d0, d1], _ => rfl) W base args ds gs before hval hW

theorem row_holds : Rows.FnExactFindDocsSaid :=
  OpenClaim.holds_of_wide 3 Tryz.f3 rfl rfl rfl rfl rfl rfl rfl ⟨rfl, rfl, rfl, rfl, rfl⟩ rfl rfl rfl rfl rfl (by kernel_rfl) Tryz.func3 rowFacts rowInst rowWrap
    (fun os started H enc _ => rowLifted os started H enc)

theorem fnExactFindDocs_card_holds : Rows.FnExactFindDocsCardSaid :=
  Claim7.holds_tied_plain_at .later [] [.data, .pinned] true (true, "32c4630857cc8293ccdf1f8cb8f5cbff8e4783163250e2979e6fb39e14e130ec") false row_holds (fun _ h => by cases h) (by kernel_rfl) (fun _ h => by cases h) fnExactFindDocs_row_tie rfl ⟨rfl, rfl⟩ (by kernel_rfl) rfl
    (fun f fn hf hfn => by
      obtain rfl : f = 3 := Option.some.inj ((show Tryz.prog.funcNamed "loop.example/g00380/laws.FnExactFindDocs" = some 3 by kernel_rfl).symm.trans hf) |>.symm
      obtain rfl : fn = Tryz.f3 := (Option.some.inj (Tryz.func3.symm.trans hfn)).symm
      exact ⟨by kernel_rfl, fun j t ht => by
        have hm : t ∈ [28, 29] := by rw [← rowParams]; simpa using Array.mem_of_getElem? ht
        have hall : ([28, 29].all fun u => !Tryz.prog.wantsStandIn u) = true := by kernel_rfl
        exact (show Tryz.prog.wantsStandIn t = false by simpa using List.all_eq_true.1 hall t hm)⟩)
    (by kernel_rfl)
#print axioms fnExactFindDocs_card_holds
end Go.Proofs.YtmegollghdmpfaaGreatDoor
