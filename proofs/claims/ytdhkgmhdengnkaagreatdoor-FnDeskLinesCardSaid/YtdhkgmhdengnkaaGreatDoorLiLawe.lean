/- What the row says of the law, one part. -/
import Derived.Test.YtdhkgmhdengnkaaGreatDoorRows
import Derived.Test.YtdhkgmhdengnkaaGreatDoorChecked
import Derived.ProofKit
import Derived.JoinedOf
import Derived.OpenShut
namespace Go.Proofs.YtdhkgmhdengnkaaGreatDoor.Li
open Go
set_option linter.unusedVariables false
theorem zj5:(Rows.fnDeskLinesRow.unfollowed == Tryz.pinned.checked.prog.unfollowed 4)=true:=by kernel_rfl
end Go.Proofs.YtdhkgmhdengnkaaGreatDoor.Li
