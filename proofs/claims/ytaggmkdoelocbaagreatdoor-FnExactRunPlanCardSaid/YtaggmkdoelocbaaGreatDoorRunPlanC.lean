/- Closed facts of the row of FnExactRunPlan, by the kernel, second part. No condition. -/
import Derived.Test.YtaggmkdoelocbaaGreatDoorRunPlanA
namespace Go.Proofs.YtaggmkdoelocbaaGreatDoor
open Go

theorem rowF3 : (Rows.fnExactRunPlanRow.recurses == Tryz.pinned.checked.prog.recurses 3) = true := by kernel_rfl
theorem rowF4 : (Rows.fnExactRunPlanRow.named == Tryz.pinned.checked.prog.varsNamed 3) = true := by kernel_rfl
end Go.Proofs.YtaggmkdoelocbaaGreatDoor
