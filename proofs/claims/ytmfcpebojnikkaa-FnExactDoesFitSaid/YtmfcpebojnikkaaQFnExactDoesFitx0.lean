-- written by a program of this session, over the form of the kit's print
import Derived.Test.YtmfcpebojnikkaaProg
import Derived.Below
import Derived.Deep.Draws
import Derived.Deep.AppendLies
import Derived.Maps.AppendAt
import Derived.OwnWalk
import Derived.Laws.BytesArg
import Derived.Laws.MakeOwn
import Derived.Laws.OwnMore
import Derived.Deep.OwnRows
import Derived.Tactics
import Derived.Lib.ConvBytes
import Derived.Laws.Slices
import Derived.WalkKit
import Derived.KernelRfl
import Derived.RowKit3
import Derived.Deep.LoopGhost
import Derived.Deep.QuietTactic
import Derived.BigQuiet
import Derived.WideLaws
import Derived.Deep.DeepCutAuto
import Derived.Deep.CutBlock
import Derived.Deep.RegionHeld3
import Derived.Laws.Rows
import Derived.Lib.AppendStr
import Derived.ArgAppend
import Derived.Laws.IdiomCopy
import Derived.OrdersHeld
import Derived.Laws.BitsLemmas
import Derived.RowKit
import Derived.Test.YtmfcpebojnikkaaV
import Derived.Test.YtmfcpebojnikkaaWWords
import Derived.Test.YtmfcpebojnikkaaWLast
import Derived.Test.YtmfcpebojnikkaaWTab
import Derived.Test.YtmfcpebojnikkaaWFour
import Derived.Test.YtmfcpebojnikkaaWQPut
import Derived.Test.YtmfcpebojnikkaaWApart
import Derived.Test.YtmfcpebojnikkaaWArr
import Derived.Test.YtmfcpebojnikkaaWZeros
import Derived.Test.YtmfcpebojnikkaaWFoot
import Derived.Test.YtmfcpebojnikkaaWKept
import Derived.Test.YtmfcpebojnikkaaWShare
import Derived.Test.YtmfcpebojnikkaaWN
import Derived.Test.YtmfcpebojnikkaaWFootNe
import Derived.Test.YtmfcpebojnikkaaWAt
import Derived.Test.YtmfcpebojnikkaaWEqStruct
import Derived.Test.YtmfcpebojnikkaaWRepsOne
import Derived.Test.YtmfcpebojnikkaaWInv
import Derived.Test.YtmfcpebojnikkaaWInvWords
import Derived.Test.YtmfcpebojnikkaaWGuard
import Derived.Test.YtmfcpebojnikkaaWNEv
import Derived.Test.YtmfcpebojnikkaaWMore
namespace Go.Proofs.Ytmfcpebojnikkaa.QFnExactDoesFit
open Go.RowKit Go.Proofs.YtmfcpebojnikkaaV Go.Proofs.YtmfcpebojnikkaaW.PrintWords Go.Proofs.YtmfcpebojnikkaaW.PrintLast Go.Proofs.YtmfcpebojnikkaaW.PrintMore
attribute [local go_sem] max2_int min2_int max_two min_two max_three min_three max_four min_four   -- for this text's walks alone
set_option linter.unusedVariables false
set_option linter.unusedSimpArgs false



def errW : Option Int → Value
  | none => .nilIface
  | some c => .iface 0 (.int .i64 c)
theorem errW_none : errW none = .nilIface := rfl
theorem errW_some (c : Int) : errW (some c) = .iface 0 (.int .i64 c) := rfl

-- the values' own types

end Go.Proofs.Ytmfcpebojnikkaa.QFnExactDoesFit
