/-
  No cell of these rows narrows 'for every input' (looked for: loops, veiled, ifaces, maps, wideKeys, modest, calm, conditions, laid).
  DERIVED. THE GIVEN ROWS OF THIS SEAT. 3 by the template 'for every input the law returns true; each argument reads behind the call as it read before'; 0 by the template 'total and deterministic' (their statements: YtojbcpklmegjpaaTotals.lean).
  GIVEN WITH THE SEED: the statements are not yours to turn. If you find one false, say at which input.
  Laid BY PROGRAM, IN A SANDBOX (cutbox-rows.mjs): the forced cells as the released guide's own fill.sh prints them over the translation ff7430f06236a798… (all of the seat's roots in one cut). By AI agents, Wed Nov 11 2026. No macro, syntax, notation, axiom, sorry.
-/
import Derived.Test.YtojbcpklmegjpaaChecked
import GoSem.Claim
import GoSem.ClaimJoined
import GoSem.ClaimMapViews
import Derived.JoinedTies
import Derived.KernelRfl
namespace Go.Proofs.Ytojbcpklmegjpaa
/- THE CELL 'sum', in the pinned program and in every row, IS THE sha256 OF THE DUMP (.gsa) THAT YtojbcpklmegjpaaProg.lean LOADS. Nothing in Lean hashes anything: it is a label: what it is worth is what the hold of that sum in a sandbox is worth. -/
noncomputable def Try.pinned : Pinned := { name := "ytojbcpklmegjpaa", sum := "ff7430f06236a798bba05d61c20b2a8176fa5a18cdf3628d9c38339fc3117a82", checked := Try.checked }
namespace Rows
def none {H : Type} : Left H := { results := [], args := [] }

/-- 'laws.FnExactPairsMeeting': WHATEVER THE INPUT: true; the input reads as it did. -/
def fnExactPairsMeetingSpec : ChangeSpec := { name := "fnExactPairsMeeting", fn := fun _ => fun
  | [d] => { results := [.lit (.bool true)], args := [d] }
  | _ => none }
def fnExactPairsMeetingRow : OpenClaim := { program := "ytojbcpklmegjpaa", sum := "ff7430f06236a798bba05d61c20b2a8176fa5a18cdf3628d9c38339fc3117a82", func := "loop.example/g01335/laws.FnExactPairsMeeting", spec := "fnExactPairsMeeting", unfollowed := true, recurses := true, apart := false }
def FnExactPairsMeetingSaid : Prop := fnExactPairsMeetingRow.holds Try.pinned (OpenSpec.ofChange fnExactPairsMeetingSpec)

/-- ITS FALSE NEIGHBOUR: 'it returns false'. Refute it at one input. -/
def fnExactPairsMeetingWrong : ChangeSpec := { name := "fnExactPairsMeeting", fn := fun _ => fun
  | [d] => { results := [.lit (.bool false)], args := [d] }
  | _ => none }
def FnExactPairsMeetingWrongFalsely : Prop := fnExactPairsMeetingRow.holds Try.pinned (OpenSpec.ofChange fnExactPairsMeetingWrong)

/-- 'laws.FnExactEmptyTimes': WHATEVER THE INPUT: true; the input reads as it did. -/
def fnExactEmptyTimesSpec : ChangeSpec := { name := "fnExactEmptyTimes", fn := fun _ => fun
  | [d1, d2] => { results := [.lit (.bool true)], args := [d1, d2] }
  | _ => none }
def fnExactEmptyTimesRow : OpenClaim := { program := "ytojbcpklmegjpaa", sum := "ff7430f06236a798bba05d61c20b2a8176fa5a18cdf3628d9c38339fc3117a82", func := "loop.example/g01335/laws.FnExactEmptyTimes", spec := "fnExactEmptyTimes", unfollowed := true, recurses := true, apart := false }
def FnExactEmptyTimesSaid : Prop := fnExactEmptyTimesRow.holds Try.pinned (OpenSpec.ofChange fnExactEmptyTimesSpec)

/-- ITS FALSE NEIGHBOUR: 'it returns false'. Refute it at one input. -/
def fnExactEmptyTimesWrong : ChangeSpec := { name := "fnExactEmptyTimes", fn := fun _ => fun
  | [d1, d2] => { results := [.lit (.bool false)], args := [d1, d2] }
  | _ => none }
def FnExactEmptyTimesWrongFalsely : Prop := fnExactEmptyTimesRow.holds Try.pinned (OpenSpec.ofChange fnExactEmptyTimesWrong)

/-- 'laws.FnVisitsChance': WHATEVER THE INPUT: true; the input reads as it did. -/
def fnVisitsChanceSpec : ChangeSpec := { name := "fnVisitsChance", fn := fun _ => fun
  | [d1, d2] => { results := [.lit (.bool true)], args := [d1, d2] }
  | _ => none }
def fnVisitsChanceRow : OpenClaim := { program := "ytojbcpklmegjpaa", sum := "ff7430f06236a798bba05d61c20b2a8176fa5a18cdf3628d9c38339fc3117a82", func := "loop.example/g01335/laws.FnVisitsChance", spec := "fnVisitsChance", apart := false }
def FnVisitsChanceSaid : Prop := fnVisitsChanceRow.holds Try.pinned (OpenSpec.ofChange fnVisitsChanceSpec)

/-- ITS FALSE NEIGHBOUR: 'it returns false'. Refute it at one input. -/
def fnVisitsChanceWrong : ChangeSpec := { name := "fnVisitsChance", fn := fun _ => fun
  | [d1, d2] => { results := [.lit (.bool false)], args := [d1, d2] }
  | _ => none }
def FnVisitsChanceWrongFalsely : Prop := fnVisitsChanceRow.holds Try.pinned (OpenSpec.ofChange fnVisitsChanceWrong)

/- THE SECOND FORM. 'bulk': how many values and letters a reading holds, each counted each time it is reached (what is shared counts as often as it is met; a slice's spare places count too). A statement '..UptoSaid' is the law's where the arguments, and the package variables that the reading takes, are together of bulk at most 1048576: NARROWER than '..Said'. Prove '..Said' where nothing that the law and all that it calls make is longer than what came in: it says more and counts as full. Else prove '..UptoSaid'. A law counts once. -/
mutual
def uptoBulk {H : Type} : DataW H → Nat
  | .lit (.string bytes) => bytes.length + 1
  | .lit _ => 1
  | .nil => 1
  | .ptr d => uptoBulk d + 1
  | .slice elems spare => uptoBulkAll elems + uptoBulkAll spare + 1
  | .agg parts => uptoBulkAll parts + 1
  | .iface _ d => uptoBulk d + 1
  | .map entries => uptoBulkEntries entries + 1
  | .held _ => 1
def uptoBulkAll {H : Type} : List (DataW H) → Nat
  | [] => 0
  | d :: r => uptoBulk d + uptoBulkAll r
def uptoBulkEntries {H : Type} : List (Lit × DataW H) → Nat
  | [] => 0
  | x :: r => uptoBulkEntry x + uptoBulkEntries r
def uptoBulkEntry {H : Type} : Lit × DataW H → Nat
  | (.string bytes, d) => bytes.length + uptoBulk d + 1
  | (_, d) => uptoBulk d + 1
 end
def uptoSmall : (H : Type) → List (DataW H) → Bool := fun _ ds => decide (uptoBulkAll ds ≤ 1048576)
def OpenSpec.upto (s : _root_.Go.ChangeSpec) : _root_.Go.OpenSpec := { _root_.Go.OpenSpec.ofChange s with cond := some uptoSmall }

/-- 'laws.FnExactPairsMeeting', WHERE WHAT IT READS IS OF BULK AT MOST 1048576: true; the input reads as it did. -/
def fnExactPairsMeetingUptoRow : OpenClaim := { program := "ytojbcpklmegjpaa", sum := "ff7430f06236a798bba05d61c20b2a8176fa5a18cdf3628d9c38339fc3117a82", func := "loop.example/g01335/laws.FnExactPairsMeeting", spec := "fnExactPairsMeeting", unfollowed := true, recurses := true, apart := false, narrowed := true }
def FnExactPairsMeetingUptoSaid : Prop := fnExactPairsMeetingUptoRow.holds Try.pinned (OpenSpec.upto fnExactPairsMeetingSpec)

/-- 'laws.FnExactEmptyTimes', WHERE WHAT IT READS IS OF BULK AT MOST 1048576: true; the input reads as it did. -/
def fnExactEmptyTimesUptoRow : OpenClaim := { program := "ytojbcpklmegjpaa", sum := "ff7430f06236a798bba05d61c20b2a8176fa5a18cdf3628d9c38339fc3117a82", func := "loop.example/g01335/laws.FnExactEmptyTimes", spec := "fnExactEmptyTimes", unfollowed := true, recurses := true, apart := false, narrowed := true }
def FnExactEmptyTimesUptoSaid : Prop := fnExactEmptyTimesUptoRow.holds Try.pinned (OpenSpec.upto fnExactEmptyTimesSpec)

/-- 'laws.FnVisitsChance', WHERE WHAT IT READS IS OF BULK AT MOST 1048576: true; the input reads as it did. -/
def fnVisitsChanceUptoRow : OpenClaim := { program := "ytojbcpklmegjpaa", sum := "ff7430f06236a798bba05d61c20b2a8176fa5a18cdf3628d9c38339fc3117a82", func := "loop.example/g01335/laws.FnVisitsChance", spec := "fnVisitsChance", apart := false, narrowed := true }
def FnVisitsChanceUptoSaid : Prop := fnVisitsChanceUptoRow.holds Try.pinned (OpenSpec.upto fnVisitsChanceSpec)

end Rows
end Go.Proofs.Ytojbcpklmegjpaa
