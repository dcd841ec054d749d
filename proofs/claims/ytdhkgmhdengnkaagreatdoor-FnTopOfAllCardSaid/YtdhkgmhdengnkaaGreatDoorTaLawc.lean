/- For every input the law answers true: there is no condition. -/
import Derived.Test.YtdhkgmhdengnkaaGreatDoorTaLawb
import Derived.Test.YtdhkgmhdengnkaaGreatDoorTaLawh
import Derived.Test.YtdhkgmhdengnkaaGreatDoorTaLawi
import Derived.Test.YtdhkgmhdengnkaaGreatDoorTaLawj
import Derived.Test.YtdhkgmhdengnkaaGreatDoorTaLawk
namespace Go.Proofs.YtdhkgmhdengnkaaGreatDoor.Ta
open Go Go.Proofs.YtdhkgmhdengnkaaGreatDoorPi Go.ChangeShapes Go.WideShapes Go.ChangeAt Go.RowKit Go.Deep
open Go.ChangeMaps (open_string shut_string)
set_option linter.unusedVariables false
theorem proved:Rows.FnTopOfAllCardSaid :=
 Claim7.holds_tied_plain_at .later [] [.data,.data,.data,.data,.sentinel,.sentinel,.pinned] true (true, "47f7845a94681cf95ac377c19a7095ae718c3b054c28c0d019753aed7bdbb4fc") true
  over (fun _ h=>by cases h) zts (fun _ h=>by cases h) fnTopOfAll_row_tie rfl ⟨rfl,rfl⟩ zq9 rfl
  (fun f fn hf hfn=>by
   obtain rfl:f=9:=Option.some.inj ((show Tryz.prog.funcNamed "loop.example/g01335/laws.FnTopOfAll" = some 9 by kernel_rfl).symm.trans hf) |>.symm
   obtain rfl:fn=Tryz.f9:=(Option.some.inj (Tryz.func9.symm.trans hfn)).symm
   exact ⟨zpn,fun j t ht=>by
    rw [Tryz.params9] at ht
    have h3:t=9 \/ t=3:=by
     rcases j with _ | _ | j
     · simp at ht; subst ht; simp
     · simp at ht; subst ht; simp
     · simp at ht
    rcases h3 with rfl | rfl
    · exact (show Tryz.prog.wantsStandIn 9=false by kernel_rfl)
    · exact (show Tryz.prog.wantsStandIn 3=false by kernel_rfl)⟩)
  zra
#print axioms proved
end Go.Proofs.YtdhkgmhdengnkaaGreatDoor.Ta
namespace Go.Proofs.YtdhkgmhdengnkaaGreatDoor
theorem fnTopOfAll_holds:Rows.FnTopOfAllCardSaid:=Ta.proved
end Go.Proofs.YtdhkgmhdengnkaaGreatDoor
