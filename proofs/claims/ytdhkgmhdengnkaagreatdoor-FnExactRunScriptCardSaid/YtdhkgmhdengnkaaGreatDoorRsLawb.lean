/- The law as a row. -/
import Derived.Test.YtdhkgmhdengnkaaGreatDoorRsLawa
import Derived.Test.YtdhkgmhdengnkaaGreatDoorRsLawd
import Derived.Test.YtdhkgmhdengnkaaGreatDoorRsLawe
import Derived.Test.YtdhkgmhdengnkaaGreatDoorRsLawf
import Derived.Test.YtdhkgmhdengnkaaGreatDoorRsLawg
namespace Go.Proofs.YtdhkgmhdengnkaaGreatDoor.Rs
open Go Go.Proofs.YtdhkgmhdengnkaaGreatDoorPi Go.ChangeShapes Go.WideShapes Go.ChangeAt Go.RowKit Go.Deep
open Go.ChangeMaps (open_string shut_string)
set_option linter.unusedVariables false
theorem ztZ:joinedFacts Tryz.pinned.checked.prog 6 Tryz.f6 Rows.fnExactRunScriptSpec Rows.fnExactRunScriptRow=true:=by
 unfold joinedFacts
 rw [znn,zjE,zmk,zqP]
 kernel_rfl
theorem over:Rows.fnExactRunScriptRow.holds Tryz.pinned (OpenSpec.ofChange Rows.fnExactRunScriptSpec) :=
 OpenClaim.holds_of_wide 6 Tryz.f6 rfl rfl rfl rfl rfl rfl rfl ⟨rfl,rfl,rfl,rfl,rfl⟩ rfl rfl rfl rfl rfl (by kernel_rfl) Tryz.func6 ztZ
  (of_decide_eq_true (by kernel_rfl)) (by unfold Func.isWrapper; first | (rw [if_pos (by decide +kernel)]; kernel_rfl) | (rw [if_neg (by decide +kernel)]; exact ⟨rfl,rfl⟩))
  (fun os started H enc _=>lifted os started H enc)
end Go.Proofs.YtdhkgmhdengnkaaGreatDoor.Rs
