/- Closed facts of the row of FnPlans, by the kernel, further. No condition. -/
import Derived.Test.YtnbhnfbeahobeaaGreatDoorPlansE
namespace Go.Proofs.YtnbhnfbeahobeaaGreatDoor
open Go

theorem rowInst : Func.isInstance Tryz.pinned.checked.prog Tryz.f3 Rows.fnPlansRow.origin Rows.fnPlansRow.targs := of_decide_eq_true (by kernel_rfl)
theorem rowWrap : Func.isWrapper Tryz.pinned.checked.prog Tryz.f3 Rows.fnPlansRow.wrapper Rows.fnPlansRow.mainSum := by
 unfold Func.isWrapper; first | (rw [if_pos (by decide +kernel)]; kernel_rfl) | (rw [if_neg (by decide +kernel)]; exact ⟨rfl, rfl⟩)
end Go.Proofs.YtnbhnfbeahobeaaGreatDoor
