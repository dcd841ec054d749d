/- What the card says of the law, one part. -/
import Derived.Test.YtdhkgmhdengnkaaGreatDoorRows
import Derived.Test.YtdhkgmhdengnkaaGreatDoorChecked
import Derived.ProofKit
import Derived.JoinedOf
import Derived.OpenShut
import Derived.SevenTiedAt
namespace Go.Proofs.YtdhkgmhdengnkaaGreatDoor.Li
open Go
set_option linter.unusedVariables false
theorem ztO:Rows.fnDeskLinesRow.wfByText (OpenSpec.ofChange Rows.fnDeskLinesSpec)=true:=by kernel_rfl
end Go.Proofs.YtdhkgmhdengnkaaGreatDoor.Li
