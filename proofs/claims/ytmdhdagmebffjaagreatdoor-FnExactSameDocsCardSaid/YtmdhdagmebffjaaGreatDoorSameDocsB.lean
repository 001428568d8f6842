/- Closed facts of the row of FnExactSameDocs, by the kernel, further. No condition. -/
import Derived.Test.YtmdhdagmebffjaaGreatDoorSameDocsA
namespace Go.Proofs.YtmdhdagmebffjaaGreatDoor
open Go

theorem rowInst : Func.isInstance Tryz.pinned.checked.prog Tryz.f3 Rows.fnExactSameDocsRow.origin Rows.fnExactSameDocsRow.targs := of_decide_eq_true (by kernel_rfl)
theorem rowWrap : Func.isWrapper Tryz.pinned.checked.prog Tryz.f3 Rows.fnExactSameDocsRow.wrapper Rows.fnExactSameDocsRow.mainSum := by
  unfold Func.isWrapper; first | (rw [if_pos (by decide +kernel)]; kernel_rfl) | (rw [if_neg (by decide +kernel)]; exact ⟨rfl, rfl⟩)
end Go.Proofs.YtmdhdagmebffjaaGreatDoor
