/- Closed facts of the row of FnExactNoPivot, by the kernel. No condition. -/
import Derived.Test.YtohgkgbemnhhgaaGreatDoorRows
import Derived.JoinedOf
import Derived.RowKit
import Derived.Stop.Joined
namespace Go.Proofs.YtohgkgbemnhhgaaGreatDoor
open Go

theorem rowFacts : joinedFacts Tryz.pinned.checked.prog 3 Tryz.f3 Rows.fnExactNoPivotSpec Rows.fnExactNoPivotRow = true := by kernel_rfl
end Go.Proofs.YtohgkgbemnhhgaaGreatDoor
