/- Closed facts of the row of FnExactFindDocs, by the kernel. No condition. -/
import Derived.Test.YtmegollghdmpfaaGreatDoorRows
import Derived.JoinedOf
import Derived.RowKit
import Derived.Stop.Joined
namespace Go.Proofs.YtmegollghdmpfaaGreatDoor
open Go

theorem rowFacts : joinedFacts Tryz.pinned.checked.prog 3 Tryz.f3 Rows.fnExactFindDocsSpec Rows.fnExactFindDocsRow = true := by kernel_rfl
end Go.Proofs.YtmegollghdmpfaaGreatDoor
