/- Closed facts of the row of FnExactFindDocs, by the kernel, further. No condition. -/
import Derived.Test.YtmegollghdmpfaaGreatDoorFindDocsA
namespace Go.Proofs.YtmegollghdmpfaaGreatDoor
open Go

theorem rowInst : Func.isInstance Tryz.pinned.checked.prog Tryz.f3 Rows.fnExactFindDocsRow.origin Rows.fnExactFindDocsRow.targs := of_decide_eq_true (by kernel_rfl)
theorem rowWrap : Func.isWrapper Tryz.pinned.checked.prog Tryz.f3 Rows.fnExactFindDocsRow.wrapper Rows.fnExactFindDocsRow.mainSum := by
  unfold Func.isWrapper; first | (rw [if_pos (by decide +kernel)]; kernel_rfl) | (rw [if_neg (by decide +kernel)]; exact ⟨rfl, rfl⟩)
end Go.Proofs.YtmegollghdmpfaaGreatDoor
