/- Closed facts of the row of FnExactOpenSessions, by the kernel, further. No condition. -/
import Derived.Test.YtaghikdjjoaebaaGreatDoorOpenSessionsA
namespace Go.Proofs.YtaghikdjjoaebaaGreatDoor
open Go

theorem rowInst : Func.isInstance Tryz.pinned.checked.prog Tryz.f3 Rows.fnExactOpenSessionsRow.origin Rows.fnExactOpenSessionsRow.targs := of_decide_eq_true (by kernel_rfl)
theorem rowWrap : Func.isWrapper Tryz.pinned.checked.prog Tryz.f3 Rows.fnExactOpenSessionsRow.wrapper Rows.fnExactOpenSessionsRow.mainSum := by
  unfold Func.isWrapper; first | (rw [if_pos (by decide +kernel)]; kernel_rfl) | (rw [if_neg (by decide +kernel)]; exact ⟨rfl, rfl⟩)
end Go.Proofs.YtaghikdjjoaebaaGreatDoor
