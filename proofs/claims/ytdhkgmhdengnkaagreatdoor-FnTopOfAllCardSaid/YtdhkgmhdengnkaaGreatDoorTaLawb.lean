/- The law as a row. -/
import Derived.Test.YtdhkgmhdengnkaaGreatDoorTaLawa
import Derived.Test.YtdhkgmhdengnkaaGreatDoorTaLawd
import Derived.Test.YtdhkgmhdengnkaaGreatDoorTaLawe
import Derived.Test.YtdhkgmhdengnkaaGreatDoorTaLawf
import Derived.Test.YtdhkgmhdengnkaaGreatDoorTaLawg
namespace Go.Proofs.YtdhkgmhdengnkaaGreatDoor.Ta
open Go Go.Proofs.YtdhkgmhdengnkaaGreatDoorPi Go.ChangeShapes Go.WideShapes Go.ChangeAt Go.RowKit Go.Deep
open Go.ChangeMaps (open_string shut_string)
set_option linter.unusedVariables false
theorem zug:joinedFacts Tryz.pinned.checked.prog 9 Tryz.f9 Rows.fnTopOfAllSpec Rows.fnTopOfAllRow=true:=by
 unfold joinedFacts
 rw [znH,zjO,zmz,zq8]
 kernel_rfl
theorem over:Rows.fnTopOfAllRow.holds Tryz.pinned (OpenSpec.ofChange Rows.fnTopOfAllSpec) :=
 OpenClaim.holds_of_wide 9 Tryz.f9 rfl rfl rfl rfl rfl rfl rfl ⟨rfl,rfl,rfl,rfl,rfl⟩ rfl rfl rfl rfl rfl (by kernel_rfl) Tryz.func9 zug
  (of_decide_eq_true (by kernel_rfl)) (by unfold Func.isWrapper; first | (rw [if_pos (by decide +kernel)]; kernel_rfl) | (rw [if_neg (by decide +kernel)]; exact ⟨rfl,rfl⟩))
  (fun os started H enc _=>lifted os started H enc)
end Go.Proofs.YtdhkgmhdengnkaaGreatDoor.Ta
