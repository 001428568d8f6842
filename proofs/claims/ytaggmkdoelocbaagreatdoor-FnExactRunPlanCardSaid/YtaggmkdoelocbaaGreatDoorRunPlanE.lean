/- Closed facts of the row of FnExactRunPlan, by the kernel, all of them. No condition. -/
import Derived.Test.YtaggmkdoelocbaaGreatDoorRunPlanD
namespace Go.Proofs.YtaggmkdoelocbaaGreatDoor
open Go

theorem rowFacts : joinedFacts Tryz.pinned.checked.prog 3 Tryz.f3 Rows.fnExactRunPlanSpec Rows.fnExactRunPlanRow = true := by
 unfold joinedFacts
 simp only [rowF1, rowF2, rowF3, rowF4, rowF5, rowF6, rowF7, rowF8, Bool.and_true]
 kernel_rfl
end Go.Proofs.YtaggmkdoelocbaaGreatDoor
