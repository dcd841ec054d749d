-- written by a program of this session, over the form of the kit's print
import Derived.Test.YtojbcpklmegjpaaQFnVisitsChancex30
import Derived.Test.YtojbcpklmegjpaaQFnVisitsChancex21
import Derived.Test.YtojbcpklmegjpaaQFnVisitsChancex22
import Derived.Test.YtojbcpklmegjpaaQFnVisitsChancex23
import Derived.Test.YtojbcpklmegjpaaQFnVisitsChancex24
import Derived.Test.YtojbcpklmegjpaaQFnVisitsChancex25
import Derived.Test.YtojbcpklmegjpaaQFnVisitsChancex26
import Derived.Test.YtojbcpklmegjpaaQFnVisitsChancex27
import Derived.Test.YtojbcpklmegjpaaQFnVisitsChancex28
namespace Go.Proofs.Ytojbcpklmegjpaa.QFnVisitsChance
open Go.RowKit Go.Proofs.YtojbcpklmegjpaaV Go.Proofs.YtojbcpklmegjpaaW.PrintWords Go.Proofs.YtojbcpklmegjpaaW.PrintLast Go.Proofs.YtojbcpklmegjpaaW.PrintMore
attribute [local go_sem] max2_int min2_int max_two min_two max_three min_three max_four min_four   -- for this text's walks alone
set_option linter.unusedVariables false
set_option linter.unusedSimpArgs false

theorem laws_FnVisitsChance.calls (k : Nat) (A0 : Option Addr) (c0 : Nat) (l0 : List Int) (A1 : Option Addr) (c1 : Nat) (l1 : List Int) (r : Bool) (w : World) (hr0 : Kd.C (Kd.int .u8) w A0 l0.length l0) (hc0 : l0.length ≤ c0) (hr1 : Kd.C (Kd.int .u8) w A1 l1.length l1) (hc1 : l1.length ≤ c1) (h : laws_FnVisitsChance.f k l0 l1 = some r) :
  Calls Try.prog 5 #[.slice A0 l0.length c0, .slice A1 l1.length c1] w fun e w' => e = .returned (.bool r) ∧ Below w.heap.size w w' :=
 laws_FnVisitsChance.calls0 (laws_FnVisitsChance.seg1 (laws_FnVisitsChance.seg2 (laws_FnVisitsChance.seg3 (laws_FnVisitsChance.seg4 (laws_FnVisitsChance.seg5 (laws_FnVisitsChance.seg6 laws_FnVisitsChance.seg7)))))) k A0 c0 l0 A1 c1 l1 r w hr0 hc0 hr1 hc1 h


end Go.Proofs.Ytojbcpklmegjpaa.QFnVisitsChance
