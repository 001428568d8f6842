/- Closed facts of the row of FnExactCertify, by the kernel, further. No condition. -/
import Derived.Test.YtkffanggiblcjaaGreatDoorCertifyA
namespace Go.Proofs.YtkffanggiblcjaaGreatDoor
open Go

theorem rowInst : Func.isInstance Tryz.pinned.checked.prog Tryz.f3 Rows.fnExactCertifyRow.origin Rows.fnExactCertifyRow.targs := of_decide_eq_true (by kernel_rfl)
theorem rowWrap : Func.isWrapper Tryz.pinned.checked.prog Tryz.f3 Rows.fnExactCertifyRow.wrapper Rows.fnExactCertifyRow.mainSum := by
  unfold Func.isWrapper; first | (rw [if_pos (by decide +kernel)]; kernel_rfl) | (rw [if_neg (by decide +kernel)]; exact ⟨rfl, rfl⟩)
end Go.Proofs.YtkffanggiblcjaaGreatDoor
