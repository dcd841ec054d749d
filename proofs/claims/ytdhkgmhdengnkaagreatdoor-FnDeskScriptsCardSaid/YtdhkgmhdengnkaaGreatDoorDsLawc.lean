/- For every input the law answers true: there is no condition. -/
import Derived.Test.YtdhkgmhdengnkaaGreatDoorDsLawb
import Derived.Test.YtdhkgmhdengnkaaGreatDoorDsLawh
import Derived.Test.YtdhkgmhdengnkaaGreatDoorDsLawi
import Derived.Test.YtdhkgmhdengnkaaGreatDoorDsLawj
import Derived.Test.YtdhkgmhdengnkaaGreatDoorDsLawk
namespace Go.Proofs.YtdhkgmhdengnkaaGreatDoor.Ds
open Go Go.Proofs.YtdhkgmhdengnkaaGreatDoorPi Go.ChangeShapes Go.WideShapes Go.ChangeAt Go.RowKit Go.Deep
open Go.ChangeMaps (open_string shut_string)
set_option linter.unusedVariables false
theorem proved:Rows.FnDeskScriptsCardSaid :=
 Claim7.holds_tied_plain_at .later [] [.data,.data,.data,.data,.sentinel,.sentinel,.pinned] true (true, "47f7845a94681cf95ac377c19a7095ae718c3b054c28c0d019753aed7bdbb4fc") true
  over (fun _ h=>by cases h) zt6 (fun _ h=>by cases h) fnDeskScripts_row_tie rfl ⟨rfl,rfl⟩ zrH rfl
  (fun f fn hf hfn=>by
   obtain rfl:f=5:=Option.some.inj ((show Tryz.prog.funcNamed "loop.example/g01335/laws.FnDeskScripts" = some 5 by kernel_rfl).symm.trans hf) |>.symm
   obtain rfl:fn=Tryz.f5:=(Option.some.inj (Tryz.func5.symm.trans hfn)).symm
   exact ⟨zpT,fun j t ht=>by
    rw [Tryz.params5] at ht
    have h3:t=30 \/ t=30:=by
     rcases j with _ | _ | j
     · simp at ht; subst ht; simp
     · simp at ht; subst ht; simp
     · simp at ht
    rcases h3 with rfl | rfl
    · exact (show Tryz.prog.wantsStandIn 30=false by kernel_rfl)
    · exact (show Tryz.prog.wantsStandIn 30=false by kernel_rfl)⟩)
  zrI
#print axioms proved
end Go.Proofs.YtdhkgmhdengnkaaGreatDoor.Ds
namespace Go.Proofs.YtdhkgmhdengnkaaGreatDoor
theorem fnDeskScripts_holds:Rows.FnDeskScriptsCardSaid:=Ds.proved
end Go.Proofs.YtdhkgmhdengnkaaGreatDoor
