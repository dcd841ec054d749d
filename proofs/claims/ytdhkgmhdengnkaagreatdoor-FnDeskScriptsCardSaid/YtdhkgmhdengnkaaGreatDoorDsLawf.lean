/- What the row says of the law, one part. -/
import Derived.Test.YtdhkgmhdengnkaaGreatDoorRows
import Derived.Test.YtdhkgmhdengnkaaGreatDoorChecked
import Derived.ProofKit
import Derived.JoinedOf
import Derived.OpenShut
namespace Go.Proofs.YtdhkgmhdengnkaaGreatDoor.Ds
open Go
set_option linter.unusedVariables false
theorem zmT:(Rows.fnDeskScriptsRow.recurses == Tryz.pinned.checked.prog.recurses 5)=true:=by kernel_rfl
end Go.Proofs.YtdhkgmhdengnkaaGreatDoor.Ds
