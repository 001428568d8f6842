/- Closed facts of the row of FnPlans, by the kernel, of the card. No condition. -/
import Derived.Test.YtnbhnfbeahobeaaGreatDoorPlansB
import Derived.Test.YtnbhnfbeahobeaaGreatDoorCards
namespace Go.Proofs.YtnbhnfbeahobeaaGreatDoor
open Go

theorem cardF1 : Rows.fnPlansRow.wfByText (OpenSpec.ofChange Rows.fnPlansSpec) = true := by kernel_rfl
theorem cardF2 : Tryz.pinned.checked.prog.mainIs = some ((true, "6b73304a3d7f6f94fa2f8f2a0fd6283d769a78ab7576137e433c668f93354e80").1, (true, "6b73304a3d7f6f94fa2f8f2a0fd6283d769a78ab7576137e433c668f93354e80").2.toList) := by kernel_rfl
theorem cardF3 : Tryz.prog.funcNamed "loop.example/g00380/laws.FnPlans" = some 3 := by kernel_rfl
theorem cardF4 : false = Tryz.pinned.checked.prog.looks [] := by kernel_rfl
theorem cardF5 : ([22, 22].all fun u => !Tryz.prog.wantsStandIn u) = true := by kernel_rfl
theorem cardF6 : false = Rows.fnPlansRow.goesBy Tryz.pinned.checked.prog := by kernel_rfl
theorem cardF7 : Tryz.pinned.checked.prog.funcNamed Rows.fnPlansRow.func = some 3 := by kernel_rfl
end Go.Proofs.YtnbhnfbeahobeaaGreatDoor
