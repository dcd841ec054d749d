/- The law as a row. -/
import Derived.Test.YtdhkgmhdengnkaaGreatDoorDlLawa
import Derived.Test.YtdhkgmhdengnkaaGreatDoorDlLawd
import Derived.Test.YtdhkgmhdengnkaaGreatDoorDlLawe
import Derived.Test.YtdhkgmhdengnkaaGreatDoorDlLawf
import Derived.Test.YtdhkgmhdengnkaaGreatDoorDlLawg
namespace Go.Proofs.YtdhkgmhdengnkaaGreatDoor.Dl
open Go Go.Proofs.YtdhkgmhdengnkaaGreatDoorPi Go.ChangeShapes Go.WideShapes Go.ChangeAt Go.RowKit Go.Deep
open Go.ChangeMaps (open_string shut_string)
set_option linter.unusedVariables false
theorem closed : joinedFacts Tryz.pinned.checked.prog 7 Tryz.f7 Rows.fnExactDeskLineSpec Rows.fnExactDeskLineRow = true := by
  unfold joinedFacts
  rw [row_inPlace, row_unfollowed, row_recurses, row_named]
  kernel_rfl
theorem over : Rows.fnExactDeskLineRow.holds Tryz.pinned (OpenSpec.ofChange Rows.fnExactDeskLineSpec) :=
  OpenClaim.holds_of_wide 7 Tryz.f7 rfl rfl rfl rfl rfl rfl rfl ⟨rfl, rfl, rfl, rfl, rfl⟩ rfl rfl rfl rfl rfl (by kernel_rfl) Tryz.func7 closed
    (of_decide_eq_true (by kernel_rfl)) (by unfold Func.isWrapper; first | (rw [if_pos (by decide +kernel)]; kernel_rfl) | (rw [if_neg (by decide +kernel)]; exact ⟨rfl, rfl⟩))
    (fun os started H enc _ => lifted os started H enc)
end Go.Proofs.YtdhkgmhdengnkaaGreatDoor.Dl
