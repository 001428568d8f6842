/- Closed facts of the row of FnExactSameDocs, by the kernel. No condition. -/
import Derived.Test.YtmdhdagmebffjaaGreatDoorRows
import Derived.JoinedOf
import Derived.RowKit
import Derived.Stop.Joined
namespace Go.Proofs.YtmdhdagmebffjaaGreatDoor
open Go

theorem rowFacts : joinedFacts Tryz.pinned.checked.prog 3 Tryz.f3 Rows.fnExactSameDocsSpec Rows.fnExactSameDocsRow = true := by kernel_rfl
end Go.Proofs.YtmdhdagmebffjaaGreatDoor
