/- The law as a row. -/
import Derived.Test.YtdhkgmhdengnkaaGreatDoorDsLawa
import Derived.Test.YtdhkgmhdengnkaaGreatDoorDsLawd
import Derived.Test.YtdhkgmhdengnkaaGreatDoorDsLawe
import Derived.Test.YtdhkgmhdengnkaaGreatDoorDsLawf
import Derived.Test.YtdhkgmhdengnkaaGreatDoorDsLawg
namespace Go.Proofs.YtdhkgmhdengnkaaGreatDoor.Ds
open Go Go.Proofs.YtdhkgmhdengnkaaGreatDoorPi Go.ChangeShapes Go.WideShapes Go.ChangeAt Go.RowKit Go.Deep
open Go.ChangeMaps (open_string shut_string)
set_option linter.unusedVariables false
theorem zuW:joinedFacts Tryz.pinned.checked.prog 5 Tryz.f5 Rows.fnDeskScriptsSpec Rows.fnDeskScriptsRow=true:=by
 unfold joinedFacts
 rw [zn8,zka,zmT,zrG]
 kernel_rfl
theorem over:Rows.fnDeskScriptsRow.holds Tryz.pinned (OpenSpec.ofChange Rows.fnDeskScriptsSpec) :=
 OpenClaim.holds_of_wide 5 Tryz.f5 rfl rfl rfl rfl rfl rfl rfl ⟨rfl,rfl,rfl,rfl,rfl⟩ rfl rfl rfl rfl rfl (by kernel_rfl) Tryz.func5 zuW
  (of_decide_eq_true (by kernel_rfl)) (by unfold Func.isWrapper; first | (rw [if_pos (by decide +kernel)]; kernel_rfl) | (rw [if_neg (by decide +kernel)]; exact ⟨rfl,rfl⟩))
  (fun os started H enc _=>lifted os started H enc)
end Go.Proofs.YtdhkgmhdengnkaaGreatDoor.Ds
