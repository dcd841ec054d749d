/- What the row says of the law, one part. -/
import Derived.Test.YtdhkgmhdengnkaaGreatDoorRows
import Derived.Test.YtdhkgmhdengnkaaGreatDoorChecked
import Derived.ProofKit
import Derived.JoinedOf
import Derived.OpenShut
namespace Go.Proofs.YtdhkgmhdengnkaaGreatDoor.Li
open Go
set_option linter.unusedVariables false
theorem zmO:(Rows.fnDeskLinesRow.recurses == Tryz.pinned.checked.prog.recurses 4)=true:=by kernel_rfl
end Go.Proofs.YtdhkgmhdengnkaaGreatDoor.Li
