/- Closed facts of the row of FnExactDocsNow, by the kernel, further. No condition. -/
import Derived.Test.YtafhmggfbojpdaaGreatDoorDocsNowA
namespace Go.Proofs.YtafhmggfbojpdaaGreatDoor
open Go

theorem rowInst : Func.isInstance Tryz.pinned.checked.prog Tryz.f4 Rows.fnExactDocsNowRow.origin Rows.fnExactDocsNowRow.targs := of_decide_eq_true (by kernel_rfl)
theorem rowWrap : Func.isWrapper Tryz.pinned.checked.prog Tryz.f4 Rows.fnExactDocsNowRow.wrapper Rows.fnExactDocsNowRow.mainSum := by
  unfold Func.isWrapper; first | (rw [if_pos (by decide +kernel)]; kernel_rfl) | (rw [if_neg (by decide +kernel)]; exact ⟨rfl, rfl⟩)
end Go.Proofs.YtafhmggfbojpdaaGreatDoor
