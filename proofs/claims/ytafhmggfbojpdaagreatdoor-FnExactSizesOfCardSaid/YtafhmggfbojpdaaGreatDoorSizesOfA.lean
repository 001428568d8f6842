/- Closed facts of the row of FnExactSizesOf, by the kernel. No condition. -/
import Derived.Test.YtafhmggfbojpdaaGreatDoorRows
import Derived.JoinedOf
import Derived.RowKit
import Derived.Stop.Joined
namespace Go.Proofs.YtafhmggfbojpdaaGreatDoor
open Go

theorem rowFacts : joinedFacts Tryz.pinned.checked.prog 3 Tryz.f3 Rows.fnExactSizesOfSpec Rows.fnExactSizesOfRow = true := by kernel_rfl
end Go.Proofs.YtafhmggfbojpdaaGreatDoor
