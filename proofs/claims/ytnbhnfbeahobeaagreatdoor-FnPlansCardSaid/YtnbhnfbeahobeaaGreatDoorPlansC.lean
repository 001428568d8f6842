/- Closed facts of the row of FnPlans, by the kernel, second part. No condition. -/
import Derived.Test.YtnbhnfbeahobeaaGreatDoorPlansA
namespace Go.Proofs.YtnbhnfbeahobeaaGreatDoor
open Go

theorem rowF3 : (Rows.fnPlansRow.recurses == Tryz.pinned.checked.prog.recurses 3) = true := by kernel_rfl
theorem rowF4 : (Rows.fnPlansRow.named == Tryz.pinned.checked.prog.varsNamed 3) = true := by kernel_rfl
end Go.Proofs.YtnbhnfbeahobeaaGreatDoor
