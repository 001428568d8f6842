/- Closed facts of the row of FnExactRunPlan, by the kernel, of the card. No condition. -/
import Derived.Test.YtaggmkdoelocbaaGreatDoorRunPlanB
import Derived.Test.YtaggmkdoelocbaaGreatDoorCards
namespace Go.Proofs.YtaggmkdoelocbaaGreatDoor
open Go

theorem cardF1 : Rows.fnExactRunPlanRow.wfByText (OpenSpec.ofChange Rows.fnExactRunPlanSpec) = true := by kernel_rfl
theorem cardF2 : Tryz.pinned.checked.prog.mainIs = some ((true, "474c5971c90dde0323efc9db360329c9104aee64ca1e2359910685b6a683f831").1, (true, "474c5971c90dde0323efc9db360329c9104aee64ca1e2359910685b6a683f831").2.toList) := by kernel_rfl
theorem cardF3 : Tryz.prog.funcNamed "loop.example/g00380/laws.FnExactRunPlan" = some 3 := by kernel_rfl
theorem cardF4 : false = Tryz.pinned.checked.prog.looks [] := by kernel_rfl
theorem cardF5 : ([25, 32, 33, 34].all fun u => !Tryz.prog.wantsStandIn u) = true := by kernel_rfl
theorem cardF6 : false = Rows.fnExactRunPlanRow.goesBy Tryz.pinned.checked.prog := by kernel_rfl
theorem cardF7 : Tryz.pinned.checked.prog.funcNamed Rows.fnExactRunPlanRow.func = some 3 := by kernel_rfl
end Go.Proofs.YtaggmkdoelocbaaGreatDoor
