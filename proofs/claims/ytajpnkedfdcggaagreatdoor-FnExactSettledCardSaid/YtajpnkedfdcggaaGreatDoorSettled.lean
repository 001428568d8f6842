/- FnExactSettled holds of the given program for every input, as its card says: the row, proved by walking all the code that the law reaches and by the law over what that code computes; the card, by the given tie. Conditions: those of the given card alone. -/
import Derived.Test.YtajpnkedfdcggaaGreatDoorLa
import Derived.Test.YtajpnkedfdcggaaGreatDoorCards
import Derived.Test.YtajpnkedfdcggaaGreatDoorTie
import Derived.SevenTiedAt
import Derived.Lay
import Derived.LaidLaws
import Derived.MakeChecks
import Derived.JoinedOf
import Derived.RowKit
import Derived.Stop.Joined
namespace Go.Proofs.YtajpnkedfdcggaaGreatDoor
open Go Go.V

theorem rowOwn : ownKnob Tryz.prog.godebug = none := by kernel_rfl
theorem rowParams : Tryz.f4.params.toList = [26] := by rw [Tryz.params4]
theorem rowBool : Tryz.prog.underlying 4 = some .bool := by kernel_rfl
theorem rowRes : Tryz.f4.resultTypes = #[4] := by kernel_rfl
theorem rowTys : TyAll Tryz.prog [yStore] Tryz.f4.params.toList := by
  rw [rowParams]
  exact ⟨(tysC_ok (env := E4) tys_ok rfl rfl).1 26 _ rfl, rfl, trivial⟩
theorem rowLaw (xs : Args (roAll [yStore])) (h : WfAll [yStore] xs) : ∃ r, C4.F xs = some r ∧ r.1 = true := ⟨_, fnExactSettled_law xs.1 (wfStore xs.1 h.1), rfl⟩

set_option maxRecDepth 100000 in
theorem rowLifted (os : Os) (started : os.Started) (H : Type) (enc : TypeId × Value → H) :
    ReturnsInHanded {} Tryz.checked os 4 .any (fun w args => (Rows.fnExactSettledSpec.pre enc Tryz.prog Tryz.f4 [] false w args ∧ laidMetH Tryz.prog Rows.fnExactSettledRow.laid w) ∧ sizedMet enc Tryz.prog Tryz.f4 (OpenSpec.ofChange Rows.fnExactSettledSpec) false w args)
      (Rows.fnExactSettledSpec.post enc Tryz.prog Tryz.f4 false true false false) := by
  refine returnsInHanded_of_change_and (C := Tryz.checked) (X := fun w _ => laidMetH Tryz.prog Rows.fnExactSettledRow.laid w) (fun _ _ _ hh h => h.of_heap hh) rowOwn started (by kernel_rfl) Tryz.func4
    (ChangeSpec.witness_shaped (enc := enc) (C := Tryz.checked) (os := os) (X := fun w _ => laidMetH Tryz.prog Rows.fnExactSettledRow.laid w) false (World.laidAll Tryz.prog os Rows.fnExactSettledRow.laid) #[.agg #[.slice none 0 0, .slice none 0 0, .slice none 0 0, .int .i64 0]] 8 (World.laidAll_os _ _ _)
      (World.shaped_of_ZipB (by kernel_rfl) (by kernel_rfl)) (by kernel_rfl) (by kernel_rfl) (by kernel_rfl)
      (by rw [MakeChecks.laidMetH_plain _ _ _ (by kernel_rfl)]; exact laidMet_laidAll _ (by kernel_rfl) (by kernel_rfl))) ?_
  intro W base args ds gs before hval hW _ _ _ _
  exact law_contract (tb := 4) C4_ok rowLaw rowTys rowRes rowBool rfl (fun ds hds => by
    match ds, hds with
    | [d0], _ => rfl) W base args ds gs before hval hW

theorem row_holds : Rows.FnExactSettledSaid :=
  OpenClaim.holds_of_wide 4 Tryz.f4 rfl rfl rfl rfl rfl rfl rfl ⟨rfl, rfl, rfl, rfl, rfl⟩ rfl rfl rfl rfl rfl (by kernel_rfl) Tryz.func4 (by kernel_rfl)
    (of_decide_eq_true (by kernel_rfl)) (by unfold Func.isWrapper; first | (rw [if_pos (by decide +kernel)]; kernel_rfl) | (rw [if_neg (by decide +kernel)]; exact ⟨rfl, rfl⟩))
    (fun os started H enc _ => rowLifted os started H enc)

theorem fnExactSettled_card_holds : Rows.FnExactSettledCardSaid :=
  Claim7.holds_tied_plain_at .later [] [.data, .pinned] true (true, "7c333604dca8a5fb4513f2f533e9f475d356a204c171633b2f6f07d9ff01cef7") false row_holds (fun _ h => by cases h) (by kernel_rfl) (fun _ h => by cases h) fnExactSettled_row_tie rfl ⟨rfl, rfl⟩ (by kernel_rfl) rfl
    (fun f fn hf hfn => by
      obtain rfl : f = 4 := Option.some.inj ((show Tryz.prog.funcNamed "loop.example/g00380/laws.FnExactSettled" = some 4 by kernel_rfl).symm.trans hf) |>.symm
      obtain rfl : fn = Tryz.f4 := (Option.some.inj (Tryz.func4.symm.trans hfn)).symm
      exact ⟨by kernel_rfl, fun j t ht => by
        have hm : t ∈ [26] := by rw [← rowParams]; simpa using Array.mem_of_getElem? ht
        have hall : ([26].all fun u => !Tryz.prog.wantsStandIn u) = true := by kernel_rfl
        exact (show Tryz.prog.wantsStandIn t = false by simpa using List.all_eq_true.1 hall t hm)⟩)
    (by kernel_rfl)
#print axioms fnExactSettled_card_holds
end Go.Proofs.YtajpnkedfdcggaaGreatDoor
