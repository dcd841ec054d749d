/- For every input the law answers true: there is no condition. -/
import Derived.Test.YtdhkgmhdengnkaaGreatDoorDlLawb
import Derived.Test.YtdhkgmhdengnkaaGreatDoorDlLawh
import Derived.Test.YtdhkgmhdengnkaaGreatDoorDlLawi
import Derived.Test.YtdhkgmhdengnkaaGreatDoorDlLawj
import Derived.Test.YtdhkgmhdengnkaaGreatDoorDlLawk
namespace Go.Proofs.YtdhkgmhdengnkaaGreatDoor.Dl
open Go Go.Proofs.YtdhkgmhdengnkaaGreatDoorPi Go.ChangeShapes Go.WideShapes Go.ChangeAt Go.RowKit Go.Deep
open Go.ChangeMaps (open_string shut_string)
set_option linter.unusedVariables false
theorem proved : Rows.FnExactDeskLineCardSaid :=
  Claim7.holds_tied_plain_at .later [] [.data, .data, .data, .data, .sentinel, .sentinel, .pinned] true (true, "47f7845a94681cf95ac377c19a7095ae718c3b054c28c0d019753aed7bdbb4fc") true
    over (fun _ h => by cases h) card_wf (fun _ h => by cases h) fnExactDeskLine_row_tie rfl ⟨rfl, rfl⟩ card_main rfl
    (fun f fn hf hfn => by
      obtain rfl : f = 7 := Option.some.inj ((show Tryz.prog.funcNamed "loop.example/g01335/laws.FnExactDeskLine" = some 7 by kernel_rfl).symm.trans hf) |>.symm
      obtain rfl : fn = Tryz.f7 := (Option.some.inj (Tryz.func7.symm.trans hfn)).symm
      exact ⟨card_looks, fun j t ht => by
        rw [Tryz.params7] at ht
        have h3 : t = 52 ∨ t = 9 := by
          rcases j with _ | _ | j
          · simp at ht; subst ht; simp
          · simp at ht; subst ht; simp
          · simp at ht
        rcases h3 with rfl | rfl
        · exact (show Tryz.prog.wantsStandIn 52 = false by kernel_rfl)
        · exact (show Tryz.prog.wantsStandIn 9 = false by kernel_rfl)⟩)
    card_goes
#print axioms proved
end Go.Proofs.YtdhkgmhdengnkaaGreatDoor.Dl
namespace Go.Proofs.YtdhkgmhdengnkaaGreatDoor
theorem fnExactDeskLine_holds : Rows.FnExactDeskLineCardSaid := Dl.proved
end Go.Proofs.YtdhkgmhdengnkaaGreatDoor
