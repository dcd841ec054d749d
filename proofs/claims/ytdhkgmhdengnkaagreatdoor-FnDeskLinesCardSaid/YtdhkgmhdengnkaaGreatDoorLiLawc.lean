/- For every input the law answers true: there is no condition. -/
import Derived.Test.YtdhkgmhdengnkaaGreatDoorLiLawb
import Derived.Test.YtdhkgmhdengnkaaGreatDoorLiLawh
import Derived.Test.YtdhkgmhdengnkaaGreatDoorLiLawi
import Derived.Test.YtdhkgmhdengnkaaGreatDoorLiLawj
import Derived.Test.YtdhkgmhdengnkaaGreatDoorLiLawk
namespace Go.Proofs.YtdhkgmhdengnkaaGreatDoor.Li
open Go Go.Proofs.YtdhkgmhdengnkaaGreatDoorPi Go.ChangeShapes Go.WideShapes Go.ChangeAt Go.RowKit Go.Deep
open Go.ChangeMaps (open_string shut_string)
set_option linter.unusedVariables false
theorem proved:Rows.FnDeskLinesCardSaid :=
 Claim7.holds_tied_plain_at .later [] [.data,.data,.data,.data,.sentinel,.sentinel,.pinned] true (true, "47f7845a94681cf95ac377c19a7095ae718c3b054c28c0d019753aed7bdbb4fc") true
  over (fun _ h=>by cases h) ztO (fun _ h=>by cases h) fnDeskLines_row_tie rfl ⟨rfl,rfl⟩ zrx rfl
  (fun f fn hf hfn=>by
   obtain rfl:f=4:=Option.some.inj ((show Tryz.prog.funcNamed "loop.example/g01335/laws.FnDeskLines" = some 4 by kernel_rfl).symm.trans hf) |>.symm
   obtain rfl:fn=Tryz.f4:=(Option.some.inj (Tryz.func4.symm.trans hfn)).symm
   exact ⟨zpG,fun j t ht=>by
    rw [Tryz.params4] at ht
    have h3:t=30 \/ t=30:=by
     rcases j with _ | _ | j
     · simp at ht; subst ht; simp
     · simp at ht; subst ht; simp
     · simp at ht
    rcases h3 with rfl | rfl
    · exact (show Tryz.prog.wantsStandIn 30=false by kernel_rfl)
    · exact (show Tryz.prog.wantsStandIn 30=false by kernel_rfl)⟩)
  zry
#print axioms proved
end Go.Proofs.YtdhkgmhdengnkaaGreatDoor.Li
namespace Go.Proofs.YtdhkgmhdengnkaaGreatDoor
theorem fnDeskLines_holds:Rows.FnDeskLinesCardSaid:=Li.proved
end Go.Proofs.YtdhkgmhdengnkaaGreatDoor
