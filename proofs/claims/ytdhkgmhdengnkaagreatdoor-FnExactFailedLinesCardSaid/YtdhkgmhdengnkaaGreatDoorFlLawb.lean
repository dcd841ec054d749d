/- The law as a row. -/
import Derived.Test.YtdhkgmhdengnkaaGreatDoorFlLawa
import Derived.Test.YtdhkgmhdengnkaaGreatDoorFlLawd
import Derived.Test.YtdhkgmhdengnkaaGreatDoorFlLawe
import Derived.Test.YtdhkgmhdengnkaaGreatDoorFlLawf
import Derived.Test.YtdhkgmhdengnkaaGreatDoorFlLawg
namespace Go.Proofs.YtdhkgmhdengnkaaGreatDoor.Fl
open Go Go.Proofs.YtdhkgmhdengnkaaGreatDoorPi Go.ChangeShapes Go.WideShapes Go.ChangeAt Go.RowKit Go.Deep
open Go.ChangeMaps (open_string shut_string)
set_option linter.unusedVariables false
theorem ztT:joinedFacts Tryz.pinned.checked.prog 8 Tryz.f8 Rows.fnExactFailedLinesSpec Rows.fnExactFailedLinesRow=true:=by
 unfold joinedFacts
 rw [znm,zjE,zmi,zqL]
 kernel_rfl
theorem over:Rows.fnExactFailedLinesRow.holds Tryz.pinned (OpenSpec.ofChange Rows.fnExactFailedLinesSpec) :=
 OpenClaim.holds_of_wide 8 Tryz.f8 rfl rfl rfl rfl rfl rfl rfl ⟨rfl,rfl,rfl,rfl,rfl⟩ rfl rfl rfl rfl rfl (by kernel_rfl) Tryz.func8 ztT
  (of_decide_eq_true (by kernel_rfl)) (by unfold Func.isWrapper; first | (rw [if_pos (by decide +kernel)]; kernel_rfl) | (rw [if_neg (by decide +kernel)]; exact ⟨rfl,rfl⟩))
  (fun os started H enc _=>lifted os started H enc)
end Go.Proofs.YtdhkgmhdengnkaaGreatDoor.Fl
