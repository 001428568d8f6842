/- Closed facts of the row of FnExactNoPivot, by the kernel, further. No condition. -/
import Derived.Test.YtohgkgbemnhhgaaGreatDoorNoPivotA
namespace Go.Proofs.YtohgkgbemnhhgaaGreatDoor
open Go

theorem rowInst : Func.isInstance Tryz.pinned.checked.prog Tryz.f3 Rows.fnExactNoPivotRow.origin Rows.fnExactNoPivotRow.targs := of_decide_eq_true (by kernel_rfl)
theorem rowWrap : Func.isWrapper Tryz.pinned.checked.prog Tryz.f3 Rows.fnExactNoPivotRow.wrapper Rows.fnExactNoPivotRow.mainSum := by
  unfold Func.isWrapper; first | (rw [if_pos (by decide +kernel)]; kernel_rfl) | (rw [if_neg (by decide +kernel)]; exact ⟨rfl, rfl⟩)
end Go.Proofs.YtohgkgbemnhhgaaGreatDoor
