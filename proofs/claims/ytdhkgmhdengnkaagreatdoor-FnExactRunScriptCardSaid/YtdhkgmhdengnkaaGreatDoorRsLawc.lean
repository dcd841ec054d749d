/- For every input the law answers true: there is no condition. -/
import Derived.Test.YtdhkgmhdengnkaaGreatDoorRsLawb
import Derived.Test.YtdhkgmhdengnkaaGreatDoorRsLawh
import Derived.Test.YtdhkgmhdengnkaaGreatDoorRsLawi
import Derived.Test.YtdhkgmhdengnkaaGreatDoorRsLawj
import Derived.Test.YtdhkgmhdengnkaaGreatDoorRsLawk
namespace Go.Proofs.YtdhkgmhdengnkaaGreatDoor.Rs
open Go Go.Proofs.YtdhkgmhdengnkaaGreatDoorPi Go.ChangeShapes Go.WideShapes Go.ChangeAt Go.RowKit Go.Deep
open Go.ChangeMaps (open_string shut_string)
set_option linter.unusedVariables false
theorem proved:Rows.FnExactRunScriptCardSaid :=
 Claim7.holds_tied_plain_at .later [] [.data,.data,.data,.data,.sentinel,.sentinel,.pinned] true (true, "47f7845a94681cf95ac377c19a7095ae718c3b054c28c0d019753aed7bdbb4fc") true
  over (fun _ h=>by cases h) zs7 (fun _ h=>by cases h) fnExactRunScript_row_tie rfl ⟨rfl,rfl⟩ zqQ rfl
  (fun f fn hf hfn=>by
   obtain rfl:f=6:=Option.some.inj ((show Tryz.prog.funcNamed "loop.example/g01335/laws.FnExactRunScript" = some 6 by kernel_rfl).symm.trans hf) |>.symm
   obtain rfl:fn=Tryz.f6:=(Option.some.inj (Tryz.func6.symm.trans hfn)).symm
   exact ⟨zo6,fun j t ht=>by
    rw [Tryz.params6] at ht
    have h3:t=9:=by
     rcases j with _ | j
     · simp at ht; subst ht; simp
     · simp at ht
    rcases h3 with rfl
    · exact (show Tryz.prog.wantsStandIn 9=false by kernel_rfl)⟩)
  zqR
#print axioms proved
end Go.Proofs.YtdhkgmhdengnkaaGreatDoor.Rs
namespace Go.Proofs.YtdhkgmhdengnkaaGreatDoor
theorem fnExactRunScript_holds:Rows.FnExactRunScriptCardSaid:=Rs.proved
end Go.Proofs.YtdhkgmhdengnkaaGreatDoor
