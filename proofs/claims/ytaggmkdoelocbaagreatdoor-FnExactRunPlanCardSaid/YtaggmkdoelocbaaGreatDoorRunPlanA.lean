/- Closed facts of the row of FnExactRunPlan, by the kernel. No condition. -/
import Derived.Test.YtaggmkdoelocbaaGreatDoorRows
import Derived.JoinedOf
import Derived.RowKit
import Derived.Stop.Joined
namespace Go.Proofs.YtaggmkdoelocbaaGreatDoor
open Go

theorem rowF1 : (Rows.fnExactRunPlanRow.inPlace == Tryz.pinned.checked.prog.inPlace 3) = true := by kernel_rfl
theorem rowF2 : (Rows.fnExactRunPlanRow.unfollowed == Tryz.pinned.checked.prog.unfollowed 3) = true := by kernel_rfl
end Go.Proofs.YtaggmkdoelocbaaGreatDoor
