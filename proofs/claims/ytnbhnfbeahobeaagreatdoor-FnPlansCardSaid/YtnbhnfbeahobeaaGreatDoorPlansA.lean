/- Closed facts of the row of FnPlans, by the kernel. No condition. -/
import Derived.Test.YtnbhnfbeahobeaaGreatDoorRows
import Derived.JoinedOf
import Derived.RowKit
import Derived.Stop.Joined
namespace Go.Proofs.YtnbhnfbeahobeaaGreatDoor
open Go

theorem rowF1 : (Rows.fnPlansRow.inPlace == Tryz.pinned.checked.prog.inPlace 3) = true := by kernel_rfl
theorem rowF2 : (Rows.fnPlansRow.unfollowed == Tryz.pinned.checked.prog.unfollowed 3) = true := by kernel_rfl
end Go.Proofs.YtnbhnfbeahobeaaGreatDoor
