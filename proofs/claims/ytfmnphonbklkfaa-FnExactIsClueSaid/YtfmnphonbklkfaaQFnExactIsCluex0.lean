-- written by a program of this session, over the form of the kit's print
import Derived.Test.YtfmnphonbklkfaaProg
import Derived.Below
import Derived.Deep.Draws
import Derived.Deep.AppendLies
import Derived.Maps.AppendAt
import Derived.OwnWalk
import Derived.Laws.BytesArg
import Derived.Laws.MakeOwn
import Derived.Laws.OwnMore
import Derived.Deep.OwnRows
import Derived.Tactics
import Derived.Lib.ConvBytes
import Derived.Laws.Slices
import Derived.WalkKit
import Derived.KernelRfl
import Derived.RowKit3
import Derived.Deep.LoopGhost
import Derived.Deep.QuietTactic
import Derived.BigQuiet
import Derived.WideLaws
import Derived.Deep.DeepCutAuto
import Derived.Deep.CutBlock
import Derived.Deep.RegionHeld3
import Derived.Laws.Rows
import Derived.Lib.AppendStr
import Derived.ArgAppend
import Derived.Laws.IdiomCopy
import Derived.OrdersHeld
import Derived.Laws.BitsLemmas
import Derived.RowKit
import Derived.Test.YtfmnphonbklkfaaV
import Derived.Test.YtfmnphonbklkfaaWWords
import Derived.Test.YtfmnphonbklkfaaWLast
import Derived.Test.YtfmnphonbklkfaaWTab
import Derived.Test.YtfmnphonbklkfaaWFour
import Derived.Test.YtfmnphonbklkfaaWQPut
import Derived.Test.YtfmnphonbklkfaaWApart
import Derived.Test.YtfmnphonbklkfaaWArr
import Derived.Test.YtfmnphonbklkfaaWZeros
import Derived.Test.YtfmnphonbklkfaaWFoot
import Derived.Test.YtfmnphonbklkfaaWKept
import Derived.Test.YtfmnphonbklkfaaWShare
import Derived.Test.YtfmnphonbklkfaaWN
import Derived.Test.YtfmnphonbklkfaaWFootNe
import Derived.Test.YtfmnphonbklkfaaWAt
import Derived.Test.YtfmnphonbklkfaaWEqStruct
import Derived.Test.YtfmnphonbklkfaaWRepsOne
import Derived.Test.YtfmnphonbklkfaaWInv
import Derived.Test.YtfmnphonbklkfaaWInvWords
import Derived.Test.YtfmnphonbklkfaaWGuard
import Derived.Test.YtfmnphonbklkfaaWNEv
import Derived.Test.YtfmnphonbklkfaaWMore
namespace Go.Proofs.Ytfmnphonbklkfaa.QFnExactIsClue
open Go.RowKit Go.Proofs.YtfmnphonbklkfaaV Go.Proofs.YtfmnphonbklkfaaW.PrintWords Go.Proofs.YtfmnphonbklkfaaW.PrintLast Go.Proofs.YtfmnphonbklkfaaW.PrintMore
attribute [local go_sem] max2_int min2_int max_two min_two max_three min_three max_four min_four   -- for this text's walks alone
set_option linter.unusedVariables false
set_option linter.unusedSimpArgs false



def errW : Option Int → Value
  | none => .nilIface
  | some c => .iface 0 (.int .i64 c)
theorem errW_none : errW none = .nilIface := rfl
theorem errW_some (c : Int) : errW (some c) = .iface 0 (.int .i64 c) := rfl

-- the values' own types

end Go.Proofs.Ytfmnphonbklkfaa.QFnExactIsClue
