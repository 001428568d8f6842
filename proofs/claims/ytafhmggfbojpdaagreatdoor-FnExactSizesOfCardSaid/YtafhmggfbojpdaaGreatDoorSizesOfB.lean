/- Closed facts of the row of FnExactSizesOf, by the kernel, further. No condition. -/
import Derived.Test.YtafhmggfbojpdaaGreatDoorSizesOfA
namespace Go.Proofs.YtafhmggfbojpdaaGreatDoor
open Go

theorem rowInst : Func.isInstance Tryz.pinned.checked.prog Tryz.f3 Rows.fnExactSizesOfRow.origin Rows.fnExactSizesOfRow.targs := of_decide_eq_true (by kernel_rfl)
theorem rowWrap : Func.isWrapper Tryz.pinned.checked.prog Tryz.f3 Rows.fnExactSizesOfRow.wrapper Rows.fnExactSizesOfRow.mainSum := by
  unfold Func.isWrapper; first | (rw [if_pos (by decide +kernel)]; kernel_rfl) | (rw [if_neg (by decide +kernel)]; exact ⟨rfl, rfl⟩)
end Go.Proofs.YtafhmggfbojpdaaGreatDoor
