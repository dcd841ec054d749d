/- For every input the law answers true: there is no condition. -/
import Derived.Test.YtdhkgmhdengnkaaGreatDoorFlLawb
import Derived.Test.YtdhkgmhdengnkaaGreatDoorFlLawh
import Derived.Test.YtdhkgmhdengnkaaGreatDoorFlLawi
import Derived.Test.YtdhkgmhdengnkaaGreatDoorFlLawj
import Derived.Test.YtdhkgmhdengnkaaGreatDoorFlLawk
namespace Go.Proofs.YtdhkgmhdengnkaaGreatDoor.Fl
open Go Go.Proofs.YtdhkgmhdengnkaaGreatDoorPi Go.ChangeShapes Go.WideShapes Go.ChangeAt Go.RowKit Go.Deep
open Go.ChangeMaps (open_string shut_string)
set_option linter.unusedVariables false
theorem proved:Rows.FnExactFailedLinesCardSaid :=
 Claim7.holds_tied_plain_at .later [] [.data,.data,.data,.data,.sentinel,.sentinel,.pinned] true (true, "47f7845a94681cf95ac377c19a7095ae718c3b054c28c0d019753aed7bdbb4fc") true
  over (fun _ h=>by cases h) zs4 (fun _ h=>by cases h) fnExactFailedLines_row_tie rfl ⟨rfl,rfl⟩ zqM rfl
  (fun f fn hf hfn=>by
   obtain rfl:f=8:=Option.some.inj ((show Tryz.prog.funcNamed "loop.example/g01335/laws.FnExactFailedLines" = some 8 by kernel_rfl).symm.trans hf) |>.symm
   obtain rfl:fn=Tryz.f8:=(Option.some.inj (Tryz.func8.symm.trans hfn)).symm
   exact ⟨zo1,fun j t ht=>by
    rw [Tryz.params8] at ht
    have h3:t=9:=by
     rcases j with _ | j
     · simp at ht; subst ht; simp
     · simp at ht
    rcases h3 with rfl
    · exact (show Tryz.prog.wantsStandIn 9=false by kernel_rfl)⟩)
  zqN
#print axioms proved
end Go.Proofs.YtdhkgmhdengnkaaGreatDoor.Fl
namespace Go.Proofs.YtdhkgmhdengnkaaGreatDoor
theorem fnExactFailedLines_holds:Rows.FnExactFailedLinesCardSaid:=Fl.proved
end Go.Proofs.YtdhkgmhdengnkaaGreatDoor
