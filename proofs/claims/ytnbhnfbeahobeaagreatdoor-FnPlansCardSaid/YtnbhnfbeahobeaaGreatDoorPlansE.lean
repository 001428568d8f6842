/- Closed facts of the row of FnPlans, by the kernel, all of them. No condition. -/
import Derived.Test.YtnbhnfbeahobeaaGreatDoorPlansD
namespace Go.Proofs.YtnbhnfbeahobeaaGreatDoor
open Go

theorem rowFacts : joinedFacts Tryz.pinned.checked.prog 3 Tryz.f3 Rows.fnPlansSpec Rows.fnPlansRow = true := by
 unfold joinedFacts
 simp only [rowF1, rowF2, rowF3, rowF4, rowF5, rowF6, rowF7, rowF8, Bool.and_true]
 kernel_rfl
end Go.Proofs.YtnbhnfbeahobeaaGreatDoor
