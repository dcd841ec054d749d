/- What the card says of the law, one part. -/
import Derived.Test.YtdhkgmhdengnkaaGreatDoorRows
import Derived.Test.YtdhkgmhdengnkaaGreatDoorChecked
import Derived.ProofKit
import Derived.JoinedOf
import Derived.OpenShut
import Derived.SevenTiedAt
namespace Go.Proofs.YtdhkgmhdengnkaaGreatDoor.Li
open Go
set_option linter.unusedVariables false
theorem zrx:Tryz.pinned.checked.prog.mainIs=some (true,("47f7845a94681cf95ac377c19a7095ae718c3b054c28c0d019753aed7bdbb4fc" : String).toList):=by kernel_rfl
end Go.Proofs.YtdhkgmhdengnkaaGreatDoor.Li
