/- Closed facts of the row of FnPlans, by the kernel, third part. No condition. -/
import Derived.Test.YtnbhnfbeahobeaaGreatDoorPlansC
namespace Go.Proofs.YtnbhnfbeahobeaaGreatDoor
open Go

theorem rowF5 : Tryz.pinned.checked.prog.stopsHeard = true := by kernel_rfl
theorem rowF6 : Tryz.pinned.checked.prog.mayEnter = true := by kernel_rfl
theorem rowF7 : laidOutB Tryz.pinned.checked.prog = true := by kernel_rfl
theorem rowF8 : mapsRowed Tryz.pinned.checked.prog = true := by kernel_rfl
end Go.Proofs.YtnbhnfbeahobeaaGreatDoor
