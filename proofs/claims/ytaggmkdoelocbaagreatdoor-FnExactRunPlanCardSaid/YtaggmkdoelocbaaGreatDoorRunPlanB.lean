/- Closed facts of the row of FnExactRunPlan, by the kernel, further. No condition. -/
import Derived.Test.YtaggmkdoelocbaaGreatDoorRunPlanE
namespace Go.Proofs.YtaggmkdoelocbaaGreatDoor
open Go

theorem rowInst : Func.isInstance Tryz.pinned.checked.prog Tryz.f3 Rows.fnExactRunPlanRow.origin Rows.fnExactRunPlanRow.targs := of_decide_eq_true (by kernel_rfl)
theorem rowWrap : Func.isWrapper Tryz.pinned.checked.prog Tryz.f3 Rows.fnExactRunPlanRow.wrapper Rows.fnExactRunPlanRow.mainSum := by
 unfold Func.isWrapper; first | (rw [if_pos (by decide +kernel)]; kernel_rfl) | (rw [if_neg (by decide +kernel)]; exact ⟨rfl, rfl⟩)
end Go.Proofs.YtaggmkdoelocbaaGreatDoor
