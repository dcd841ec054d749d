/- The law as a row. -/
import Derived.Test.YtdhkgmhdengnkaaGreatDoorLiLawa
import Derived.Test.YtdhkgmhdengnkaaGreatDoorLiLawd
import Derived.Test.YtdhkgmhdengnkaaGreatDoorLiLawe
import Derived.Test.YtdhkgmhdengnkaaGreatDoorLiLawf
import Derived.Test.YtdhkgmhdengnkaaGreatDoorLiLawg
namespace Go.Proofs.YtdhkgmhdengnkaaGreatDoor.Li
open Go Go.Proofs.YtdhkgmhdengnkaaGreatDoorPi Go.ChangeShapes Go.WideShapes Go.ChangeAt Go.RowKit Go.Deep
open Go.ChangeMaps (open_string shut_string)
set_option linter.unusedVariables false
theorem zuy:joinedFacts Tryz.pinned.checked.prog 4 Tryz.f4 Rows.fnDeskLinesSpec Rows.fnDeskLinesRow=true:=by
 unfold joinedFacts
 rw [znQ,zj5,zmO,zrw]
 kernel_rfl
theorem over:Rows.fnDeskLinesRow.holds Tryz.pinned (OpenSpec.ofChange Rows.fnDeskLinesSpec) :=
 OpenClaim.holds_of_wide 4 Tryz.f4 rfl rfl rfl rfl rfl rfl rfl ⟨rfl,rfl,rfl,rfl,rfl⟩ rfl rfl rfl rfl rfl (by kernel_rfl) Tryz.func4 zuy
  (of_decide_eq_true (by kernel_rfl)) (by unfold Func.isWrapper; first | (rw [if_pos (by decide +kernel)]; kernel_rfl) | (rw [if_neg (by decide +kernel)]; exact ⟨rfl,rfl⟩))
  (fun os started H enc _=>lifted os started H enc)
end Go.Proofs.YtdhkgmhdengnkaaGreatDoor.Li
