/- Closed facts of the row of FnExactDocsNow, by the kernel. No condition. -/
import Derived.Test.YtafhmggfbojpdaaGreatDoorRows
import Derived.JoinedOf
import Derived.RowKit
import Derived.Stop.Joined
namespace Go.Proofs.YtafhmggfbojpdaaGreatDoor
open Go

theorem rowFacts : joinedFacts Tryz.pinned.checked.prog 4 Tryz.f4 Rows.fnExactDocsNowSpec Rows.fnExactDocsNowRow = true := by kernel_rfl
end Go.Proofs.YtafhmggfbojpdaaGreatDoor
