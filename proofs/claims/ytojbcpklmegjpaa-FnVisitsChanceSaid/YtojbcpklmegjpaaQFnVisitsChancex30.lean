-- written by a program of this session, over the form of the kit's print
import Derived.Test.YtojbcpklmegjpaaQFnVisitsChancex0
import Derived.Test.YtojbcpklmegjpaaQFnVisitsChancex1
import Derived.Test.YtojbcpklmegjpaaQFnVisitsChancex2
import Derived.Test.YtojbcpklmegjpaaQFnVisitsChancex3
import Derived.Test.YtojbcpklmegjpaaQFnVisitsChancex4
import Derived.Test.YtojbcpklmegjpaaQFnVisitsChancex5
import Derived.Test.YtojbcpklmegjpaaQFnVisitsChancex6
namespace Go.Proofs.Ytojbcpklmegjpaa.QFnVisitsChance
open Go.RowKit Go.Proofs.YtojbcpklmegjpaaV Go.Proofs.YtojbcpklmegjpaaW.PrintWords Go.Proofs.YtojbcpklmegjpaaW.PrintLast Go.Proofs.YtojbcpklmegjpaaW.PrintMore
attribute [local go_sem] max2_int min2_int max_two min_two max_three min_three max_four min_four   -- for this text's walks alone
set_option linter.unusedVariables false
set_option linter.unusedSimpArgs false

/-- THE ONE PURE STATEMENT of laws_FnVisitsChance: yours. -/
def laws_FnVisitsChance.Pure : Prop := ∀ (l0 : List Int) (l1 : List Int), l0.length ≤ maxLen → (∀ x ∈ l0, (Lit.int .u8 x).wf = true) → l1.length ≤ maxLen → (∀ x ∈ l1, (Lit.int .u8 x).wf = true) → ∃ k, laws_FnVisitsChance.f k l0 l1 = some true

end Go.Proofs.Ytojbcpklmegjpaa.QFnVisitsChance
