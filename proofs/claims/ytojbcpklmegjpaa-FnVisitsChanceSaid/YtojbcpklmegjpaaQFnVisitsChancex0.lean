-- written by a program of this session, over the form of the kit's print
import Derived.Test.YtojbcpklmegjpaaProg
import Derived.Below
import Derived.Deep.Draws
import Derived.Deep.AppendLies
import Derived.Maps.AppendAt
import Derived.OwnWalk
import Derived.Laws.BytesArg
import Derived.Laws.MakeOwn
import Derived.Laws.OwnMore
import Derived.Deep.OwnRows
import Derived.Tactics
import Derived.Lib.ConvBytes
import Derived.Laws.Slices
import Derived.WalkKit
import Derived.KernelRfl
import Derived.RowKit3
import Derived.Deep.LoopGhost
import Derived.Deep.QuietTactic
import Derived.BigQuiet
import Derived.WideLaws
import Derived.Deep.DeepCutAuto
import Derived.Deep.CutBlock
import Derived.Deep.RegionHeld3
import Derived.Laws.Rows
import Derived.Lib.AppendStr
import Derived.ArgAppend
import Derived.Laws.IdiomCopy
import Derived.OrdersHeld
import Derived.Laws.BitsLemmas
import Derived.RowKit
import Derived.Test.YtojbcpklmegjpaaV
import Derived.Test.YtojbcpklmegjpaaV2
import Derived.Deep.RegionLaw
import Derived.Shelf.RegionOpenPlain
import Derived.Test.YtojbcpklmegjpaaWWords
import Derived.Test.YtojbcpklmegjpaaWLast
import Derived.Test.YtojbcpklmegjpaaWTab
import Derived.Test.YtojbcpklmegjpaaWFour
import Derived.Test.YtojbcpklmegjpaaWQPut
import Derived.Test.YtojbcpklmegjpaaWApart
import Derived.Test.YtojbcpklmegjpaaWArr
import Derived.Test.YtojbcpklmegjpaaWZeros
import Derived.Test.YtojbcpklmegjpaaWFoot
import Derived.Test.YtojbcpklmegjpaaWKept
import Derived.Test.YtojbcpklmegjpaaWShare
import Derived.Test.YtojbcpklmegjpaaWN
import Derived.Test.YtojbcpklmegjpaaWFootNe
import Derived.Test.YtojbcpklmegjpaaWAt
import Derived.Test.YtojbcpklmegjpaaWEqStruct
import Derived.Test.YtojbcpklmegjpaaWRepsOne
import Derived.Test.YtojbcpklmegjpaaWInv
import Derived.Test.YtojbcpklmegjpaaWInvWords
import Derived.Test.YtojbcpklmegjpaaWGuard
import Derived.Test.YtojbcpklmegjpaaWNEv
import Derived.Test.YtojbcpklmegjpaaWMore
namespace Go.Proofs.Ytojbcpklmegjpaa.QFnVisitsChance
open Go.RowKit Go.Proofs.YtojbcpklmegjpaaV Go.Proofs.YtojbcpklmegjpaaW.PrintWords Go.Proofs.YtojbcpklmegjpaaW.PrintLast Go.Proofs.YtojbcpklmegjpaaW.PrintMore
attribute [local go_sem] max2_int min2_int max_two min_two max_three min_three max_four min_four   -- for this text's walks alone
set_option linter.unusedVariables false
set_option linter.unusedSimpArgs false



def errW : Option Int → Value
  | none => .nilIface
  | some c => .iface 0 (.int .i64 c)
theorem errW_none : errW none = .nilIface := rfl
theorem errW_some (c : Int) : errW (some c) = .iface 0 (.int .i64 c) := rfl

theorem info3 : (Try.prog.info? 3).map (fun i => (i.zero, i.size, i.bytes)) = some (some (.int .i64 0), 1, 8) := by kernel_rfl
-- the values' own types

end Go.Proofs.Ytojbcpklmegjpaa.QFnVisitsChance
