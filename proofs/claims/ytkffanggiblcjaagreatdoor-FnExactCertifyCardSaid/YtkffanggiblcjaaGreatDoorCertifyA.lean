/- Closed facts of the row of FnExactCertify, by the kernel. No condition. -/
import Derived.Test.YtkffanggiblcjaaGreatDoorRows
import Derived.JoinedOf
import Derived.RowKit
import Derived.Stop.Joined
namespace Go.Proofs.YtkffanggiblcjaaGreatDoor
open Go

theorem rowFacts : joinedFacts Tryz.pinned.checked.prog 3 Tryz.f3 Rows.fnExactCertifySpec Rows.fnExactCertifyRow = true := by kernel_rfl
end Go.Proofs.YtkffanggiblcjaaGreatDoor
