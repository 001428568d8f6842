/- Closed facts of the row of FnExactOpenSessions, by the kernel. No condition. -/
import Derived.Test.YtaghikdjjoaebaaGreatDoorRows
import Derived.JoinedOf
import Derived.RowKit
import Derived.Stop.Joined
namespace Go.Proofs.YtaghikdjjoaebaaGreatDoor
open Go

theorem rowFacts : joinedFacts Tryz.pinned.checked.prog 3 Tryz.f3 Rows.fnExactOpenSessionsSpec Rows.fnExactOpenSessionsRow = true := by kernel_rfl
end Go.Proofs.YtaghikdjjoaebaaGreatDoor
