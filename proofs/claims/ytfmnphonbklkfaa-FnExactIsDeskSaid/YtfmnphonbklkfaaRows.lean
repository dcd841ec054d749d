/-
  No cell of these rows narrows 'for every input' (looked for: loops, veiled, ifaces, maps, wideKeys, modest, calm, conditions, laid).
  DERIVED. THE GIVEN ROWS OF THIS SEAT. 12 by the template 'for every input the law returns true; each argument reads behind the call as it read before'; 0 by the template 'total and deterministic' (their statements: YtfmnphonbklkfaaTotals.lean).
  GIVEN WITH THE SEED: the statements are not yours to turn. If you find one false, say at which input.
  Laid BY PROGRAM, IN A SANDBOX (cutbox-rows.mjs): the forced cells as the released guide's own fill.sh prints them over the translation 5f1dca8640a47932… (all of the seat's roots in one cut). By AI agents, Wed Nov 11 2026. No macro, syntax, notation, axiom, sorry.
-/
import Derived.Test.YtfmnphonbklkfaaChecked
import GoSem.Claim
import GoSem.ClaimJoined
import GoSem.ClaimMapViews
import Derived.JoinedTies
import Derived.KernelRfl
namespace Go.Proofs.Ytfmnphonbklkfaa
/- THE CELL 'sum', in the pinned program and in every row, IS THE sha256 OF THE DUMP (.gsa) THAT YtfmnphonbklkfaaProg.lean LOADS. Nothing in Lean hashes anything: it is a label: what it is worth is what the hold of that sum in a sandbox is worth. -/
noncomputable def Try.pinned : Pinned := { name := "ytfmnphonbklkfaa", sum := "5f1dca8640a47932f9ed7013b9f7ebb6cbbb7fa8347eb6640b154a50c2113824", checked := Try.checked }
namespace Rows
def none {H : Type} : Left H := { results := [], args := [] }

/-- 'laws.FnExactLeastStay': WHATEVER THE INPUT: true; the input reads as it did. -/
def fnExactLeastStaySpec : ChangeSpec := { name := "fnExactLeastStay", fn := fun _ => fun
  | [d1, d2, d3] => { results := [.lit (.bool true)], args := [d1, d2, d3] }
  | _ => none }
def fnExactLeastStayRow : OpenClaim := { program := "ytfmnphonbklkfaa", sum := "5f1dca8640a47932f9ed7013b9f7ebb6cbbb7fa8347eb6640b154a50c2113824", func := "loop.example/g01335/laws.FnExactLeastStay", spec := "fnExactLeastStay", apart := false }
def FnExactLeastStaySaid : Prop := fnExactLeastStayRow.holds Try.pinned (OpenSpec.ofChange fnExactLeastStaySpec)

/-- ITS FALSE NEIGHBOUR: 'it returns false'. Refute it at one input. -/
def fnExactLeastStayWrong : ChangeSpec := { name := "fnExactLeastStay", fn := fun _ => fun
  | [d1, d2, d3] => { results := [.lit (.bool false)], args := [d1, d2, d3] }
  | _ => none }
def FnExactLeastStayWrongFalsely : Prop := fnExactLeastStayRow.holds Try.pinned (OpenSpec.ofChange fnExactLeastStayWrong)

/-- 'laws.FnExactIsClue': WHATEVER THE INPUT: true; the input reads as it did. -/
def fnExactIsClueSpec : ChangeSpec := { name := "fnExactIsClue", fn := fun _ => fun
  | [d] => { results := [.lit (.bool true)], args := [d] }
  | _ => none }
def fnExactIsClueRow : OpenClaim := { program := "ytfmnphonbklkfaa", sum := "5f1dca8640a47932f9ed7013b9f7ebb6cbbb7fa8347eb6640b154a50c2113824", func := "loop.example/g01335/laws.FnExactIsClue", spec := "fnExactIsClue", apart := false }
def FnExactIsClueSaid : Prop := fnExactIsClueRow.holds Try.pinned (OpenSpec.ofChange fnExactIsClueSpec)

/-- ITS FALSE NEIGHBOUR: 'it returns false'. Refute it at one input. -/
def fnExactIsClueWrong : ChangeSpec := { name := "fnExactIsClue", fn := fun _ => fun
  | [d] => { results := [.lit (.bool false)], args := [d] }
  | _ => none }
def FnExactIsClueWrongFalsely : Prop := fnExactIsClueRow.holds Try.pinned (OpenSpec.ofChange fnExactIsClueWrong)

/-- 'laws.FnExactCountAllWithin': WHATEVER THE INPUT: true; the input reads as it did. -/
def fnExactCountAllWithinSpec : ChangeSpec := { name := "fnExactCountAllWithin", fn := fun _ => fun
  | [d1, d2, d3] => { results := [.lit (.bool true)], args := [d1, d2, d3] }
  | _ => none }
def fnExactCountAllWithinRow : OpenClaim := { program := "ytfmnphonbklkfaa", sum := "5f1dca8640a47932f9ed7013b9f7ebb6cbbb7fa8347eb6640b154a50c2113824", func := "loop.example/g01335/laws.FnExactCountAllWithin", spec := "fnExactCountAllWithin", apart := false }
def FnExactCountAllWithinSaid : Prop := fnExactCountAllWithinRow.holds Try.pinned (OpenSpec.ofChange fnExactCountAllWithinSpec)

/-- ITS FALSE NEIGHBOUR: 'it returns false'. Refute it at one input. -/
def fnExactCountAllWithinWrong : ChangeSpec := { name := "fnExactCountAllWithin", fn := fun _ => fun
  | [d1, d2, d3] => { results := [.lit (.bool false)], args := [d1, d2, d3] }
  | _ => none }
def FnExactCountAllWithinWrongFalsely : Prop := fnExactCountAllWithinRow.holds Try.pinned (OpenSpec.ofChange fnExactCountAllWithinWrong)

/-- 'laws.FnExactCountTogether': WHATEVER THE INPUT: true; the input reads as it did. -/
def fnExactCountTogetherSpec : ChangeSpec := { name := "fnExactCountTogether", fn := fun _ => fun
  | [d1, d2, d3] => { results := [.lit (.bool true)], args := [d1, d2, d3] }
  | _ => none }
def fnExactCountTogetherRow : OpenClaim := { program := "ytfmnphonbklkfaa", sum := "5f1dca8640a47932f9ed7013b9f7ebb6cbbb7fa8347eb6640b154a50c2113824", func := "loop.example/g01335/laws.FnExactCountTogether", spec := "fnExactCountTogether", apart := false }
def FnExactCountTogetherSaid : Prop := fnExactCountTogetherRow.holds Try.pinned (OpenSpec.ofChange fnExactCountTogetherSpec)

/-- ITS FALSE NEIGHBOUR: 'it returns false'. Refute it at one input. -/
def fnExactCountTogetherWrong : ChangeSpec := { name := "fnExactCountTogether", fn := fun _ => fun
  | [d1, d2, d3] => { results := [.lit (.bool false)], args := [d1, d2, d3] }
  | _ => none }
def FnExactCountTogetherWrongFalsely : Prop := fnExactCountTogetherRow.holds Try.pinned (OpenSpec.ofChange fnExactCountTogetherWrong)

/-- 'laws.FnExactChanceOfStays': WHATEVER THE INPUT: true; the input reads as it did. -/
def fnExactChanceOfStaysSpec : ChangeSpec := { name := "fnExactChanceOfStays", fn := fun _ => fun
  | [d1, d2, d3] => { results := [.lit (.bool true)], args := [d1, d2, d3] }
  | _ => none }
def fnExactChanceOfStaysRow : OpenClaim := { program := "ytfmnphonbklkfaa", sum := "5f1dca8640a47932f9ed7013b9f7ebb6cbbb7fa8347eb6640b154a50c2113824", func := "loop.example/g01335/laws.FnExactChanceOfStays", spec := "fnExactChanceOfStays", apart := false }
def FnExactChanceOfStaysSaid : Prop := fnExactChanceOfStaysRow.holds Try.pinned (OpenSpec.ofChange fnExactChanceOfStaysSpec)

/-- ITS FALSE NEIGHBOUR: 'it returns false'. Refute it at one input. -/
def fnExactChanceOfStaysWrong : ChangeSpec := { name := "fnExactChanceOfStays", fn := fun _ => fun
  | [d1, d2, d3] => { results := [.lit (.bool false)], args := [d1, d2, d3] }
  | _ => none }
def FnExactChanceOfStaysWrongFalsely : Prop := fnExactChanceOfStaysRow.holds Try.pinned (OpenSpec.ofChange fnExactChanceOfStaysWrong)

/-- 'laws.FnExactMeanApart': WHATEVER THE INPUT: true; the input reads as it did. -/
def fnExactMeanApartSpec : ChangeSpec := { name := "fnExactMeanApart", fn := fun _ => fun
  | [d] => { results := [.lit (.bool true)], args := [d] }
  | _ => none }
def fnExactMeanApartRow : OpenClaim := { program := "ytfmnphonbklkfaa", sum := "5f1dca8640a47932f9ed7013b9f7ebb6cbbb7fa8347eb6640b154a50c2113824", func := "loop.example/g01335/laws.FnExactMeanApart", spec := "fnExactMeanApart", apart := false }
def FnExactMeanApartSaid : Prop := fnExactMeanApartRow.holds Try.pinned (OpenSpec.ofChange fnExactMeanApartSpec)

/-- ITS FALSE NEIGHBOUR: 'it returns false'. Refute it at one input. -/
def fnExactMeanApartWrong : ChangeSpec := { name := "fnExactMeanApart", fn := fun _ => fun
  | [d] => { results := [.lit (.bool false)], args := [d] }
  | _ => none }
def FnExactMeanApartWrongFalsely : Prop := fnExactMeanApartRow.holds Try.pinned (OpenSpec.ofChange fnExactMeanApartWrong)

/-- 'laws.FnExactEvenChance': WHATEVER THE INPUT: true; the input reads as it did. -/
def fnExactEvenChanceSpec : ChangeSpec := { name := "fnExactEvenChance", fn := fun _ => fun
  | [d1, d2] => { results := [.lit (.bool true)], args := [d1, d2] }
  | _ => none }
def fnExactEvenChanceRow : OpenClaim := { program := "ytfmnphonbklkfaa", sum := "5f1dca8640a47932f9ed7013b9f7ebb6cbbb7fa8347eb6640b154a50c2113824", func := "loop.example/g01335/laws.FnExactEvenChance", spec := "fnExactEvenChance", apart := false }
def FnExactEvenChanceSaid : Prop := fnExactEvenChanceRow.holds Try.pinned (OpenSpec.ofChange fnExactEvenChanceSpec)

/-- ITS FALSE NEIGHBOUR: 'it returns false'. Refute it at one input. -/
def fnExactEvenChanceWrong : ChangeSpec := { name := "fnExactEvenChance", fn := fun _ => fun
  | [d1, d2] => { results := [.lit (.bool false)], args := [d1, d2] }
  | _ => none }
def FnExactEvenChanceWrongFalsely : Prop := fnExactEvenChanceRow.holds Try.pinned (OpenSpec.ofChange fnExactEvenChanceWrong)

/-- 'laws.FnExactFirstDesk': WHATEVER THE INPUT: true; the input reads as it did. -/
def fnExactFirstDeskSpec : ChangeSpec := { name := "fnExactFirstDesk", fn := fun _ => fun
  | [] => { results := [.lit (.bool true)], args := [] }
  | _ => none }
def fnExactFirstDeskRow : OpenClaim := { program := "ytfmnphonbklkfaa", sum := "5f1dca8640a47932f9ed7013b9f7ebb6cbbb7fa8347eb6640b154a50c2113824", func := "loop.example/g01335/laws.FnExactFirstDesk", spec := "fnExactFirstDesk", apart := false }
def FnExactFirstDeskSaid : Prop := fnExactFirstDeskRow.holds Try.pinned (OpenSpec.ofChange fnExactFirstDeskSpec)

/-- ITS FALSE NEIGHBOUR: 'it returns false'. Refute it at one input. -/
def fnExactFirstDeskWrong : ChangeSpec := { name := "fnExactFirstDesk", fn := fun _ => fun
  | [] => { results := [.lit (.bool false)], args := [] }
  | _ => none }
def FnExactFirstDeskWrongFalsely : Prop := fnExactFirstDeskRow.holds Try.pinned (OpenSpec.ofChange fnExactFirstDeskWrong)

/-- 'laws.FnExactAreVisits': WHATEVER THE INPUT: true; the input reads as it did. -/
def fnExactAreVisitsSpec : ChangeSpec := { name := "fnExactAreVisits", fn := fun _ => fun
  | [d] => { results := [.lit (.bool true)], args := [d] }
  | _ => none }
def fnExactAreVisitsRow : OpenClaim := { program := "ytfmnphonbklkfaa", sum := "5f1dca8640a47932f9ed7013b9f7ebb6cbbb7fa8347eb6640b154a50c2113824", func := "loop.example/g01335/laws.FnExactAreVisits", spec := "fnExactAreVisits", unfollowed := true, recurses := true, apart := false }
def FnExactAreVisitsSaid : Prop := fnExactAreVisitsRow.holds Try.pinned (OpenSpec.ofChange fnExactAreVisitsSpec)

/-- ITS FALSE NEIGHBOUR: 'it returns false'. Refute it at one input. -/
def fnExactAreVisitsWrong : ChangeSpec := { name := "fnExactAreVisits", fn := fun _ => fun
  | [d] => { results := [.lit (.bool false)], args := [d] }
  | _ => none }
def FnExactAreVisitsWrongFalsely : Prop := fnExactAreVisitsRow.holds Try.pinned (OpenSpec.ofChange fnExactAreVisitsWrong)

/-- 'laws.FnExactChanceTogether': WHATEVER THE INPUT: true; the input reads as it did. -/
def fnExactChanceTogetherSpec : ChangeSpec := { name := "fnExactChanceTogether", fn := fun _ => fun
  | [d1, d2, d3] => { results := [.lit (.bool true)], args := [d1, d2, d3] }
  | _ => none }
def fnExactChanceTogetherRow : OpenClaim := { program := "ytfmnphonbklkfaa", sum := "5f1dca8640a47932f9ed7013b9f7ebb6cbbb7fa8347eb6640b154a50c2113824", func := "loop.example/g01335/laws.FnExactChanceTogether", spec := "fnExactChanceTogether", apart := false }
def FnExactChanceTogetherSaid : Prop := fnExactChanceTogetherRow.holds Try.pinned (OpenSpec.ofChange fnExactChanceTogetherSpec)

/-- ITS FALSE NEIGHBOUR: 'it returns false'. Refute it at one input. -/
def fnExactChanceTogetherWrong : ChangeSpec := { name := "fnExactChanceTogether", fn := fun _ => fun
  | [d1, d2, d3] => { results := [.lit (.bool false)], args := [d1, d2, d3] }
  | _ => none }
def FnExactChanceTogetherWrongFalsely : Prop := fnExactChanceTogetherRow.holds Try.pinned (OpenSpec.ofChange fnExactChanceTogetherWrong)

/-- 'laws.FnExactStaysNeeded': WHATEVER THE INPUT: true; the input reads as it did. -/
def fnExactStaysNeededSpec : ChangeSpec := { name := "fnExactStaysNeeded", fn := fun _ => fun
  | [d] => { results := [.lit (.bool true)], args := [d] }
  | _ => none }
def fnExactStaysNeededRow : OpenClaim := { program := "ytfmnphonbklkfaa", sum := "5f1dca8640a47932f9ed7013b9f7ebb6cbbb7fa8347eb6640b154a50c2113824", func := "loop.example/g01335/laws.FnExactStaysNeeded", spec := "fnExactStaysNeeded", apart := false }
def FnExactStaysNeededSaid : Prop := fnExactStaysNeededRow.holds Try.pinned (OpenSpec.ofChange fnExactStaysNeededSpec)

/-- ITS FALSE NEIGHBOUR: 'it returns false'. Refute it at one input. -/
def fnExactStaysNeededWrong : ChangeSpec := { name := "fnExactStaysNeeded", fn := fun _ => fun
  | [d] => { results := [.lit (.bool false)], args := [d] }
  | _ => none }
def FnExactStaysNeededWrongFalsely : Prop := fnExactStaysNeededRow.holds Try.pinned (OpenSpec.ofChange fnExactStaysNeededWrong)

/-- 'laws.FnExactIsDesk': WHATEVER THE INPUT: true; the input reads as it did. -/
def fnExactIsDeskSpec : ChangeSpec := { name := "fnExactIsDesk", fn := fun _ => fun
  | [d] => { results := [.lit (.bool true)], args := [d] }
  | _ => none }
def fnExactIsDeskRow : OpenClaim := { program := "ytfmnphonbklkfaa", sum := "5f1dca8640a47932f9ed7013b9f7ebb6cbbb7fa8347eb6640b154a50c2113824", func := "loop.example/g01335/laws.FnExactIsDesk", spec := "fnExactIsDesk", unfollowed := true, recurses := true, apart := false }
def FnExactIsDeskSaid : Prop := fnExactIsDeskRow.holds Try.pinned (OpenSpec.ofChange fnExactIsDeskSpec)

/-- ITS FALSE NEIGHBOUR: 'it returns false'. Refute it at one input. -/
def fnExactIsDeskWrong : ChangeSpec := { name := "fnExactIsDesk", fn := fun _ => fun
  | [d] => { results := [.lit (.bool false)], args := [d] }
  | _ => none }
def FnExactIsDeskWrongFalsely : Prop := fnExactIsDeskRow.holds Try.pinned (OpenSpec.ofChange fnExactIsDeskWrong)

/- THE SECOND FORM. 'bulk': how many values and letters a reading holds, each counted each time it is reached (what is shared counts as often as it is met; a slice's spare places count too). A statement '..UptoSaid' is the law's where the arguments, and the package variables that the reading takes, are together of bulk at most 1048576: NARROWER than '..Said'. Prove '..Said' where nothing that the law and all that it calls make is longer than what came in: it says more and counts as full. Else prove '..UptoSaid'. A law counts once. -/
mutual
def uptoBulk {H : Type} : DataW H → Nat
  | .lit (.string bytes) => bytes.length + 1
  | .lit _ => 1
  | .nil => 1
  | .ptr d => uptoBulk d + 1
  | .slice elems spare => uptoBulkAll elems + uptoBulkAll spare + 1
  | .agg parts => uptoBulkAll parts + 1
  | .iface _ d => uptoBulk d + 1
  | .map entries => uptoBulkEntries entries + 1
  | .held _ => 1
def uptoBulkAll {H : Type} : List (DataW H) → Nat
  | [] => 0
  | d :: r => uptoBulk d + uptoBulkAll r
def uptoBulkEntries {H : Type} : List (Lit × DataW H) → Nat
  | [] => 0
  | x :: r => uptoBulkEntry x + uptoBulkEntries r
def uptoBulkEntry {H : Type} : Lit × DataW H → Nat
  | (.string bytes, d) => bytes.length + uptoBulk d + 1
  | (_, d) => uptoBulk d + 1
 end
def uptoSmall : (H : Type) → List (DataW H) → Bool := fun _ ds => decide (uptoBulkAll ds ≤ 1048576)
def OpenSpec.upto (s : _root_.Go.ChangeSpec) : _root_.Go.OpenSpec := { _root_.Go.OpenSpec.ofChange s with cond := some uptoSmall }

/-- 'laws.FnExactLeastStay', WHERE WHAT IT READS IS OF BULK AT MOST 1048576: true; the input reads as it did. -/
def fnExactLeastStayUptoRow : OpenClaim := { program := "ytfmnphonbklkfaa", sum := "5f1dca8640a47932f9ed7013b9f7ebb6cbbb7fa8347eb6640b154a50c2113824", func := "loop.example/g01335/laws.FnExactLeastStay", spec := "fnExactLeastStay", apart := false, narrowed := true }
def FnExactLeastStayUptoSaid : Prop := fnExactLeastStayUptoRow.holds Try.pinned (OpenSpec.upto fnExactLeastStaySpec)

/-- 'laws.FnExactIsClue', WHERE WHAT IT READS IS OF BULK AT MOST 1048576: true; the input reads as it did. -/
def fnExactIsClueUptoRow : OpenClaim := { program := "ytfmnphonbklkfaa", sum := "5f1dca8640a47932f9ed7013b9f7ebb6cbbb7fa8347eb6640b154a50c2113824", func := "loop.example/g01335/laws.FnExactIsClue", spec := "fnExactIsClue", apart := false, narrowed := true }
def FnExactIsClueUptoSaid : Prop := fnExactIsClueUptoRow.holds Try.pinned (OpenSpec.upto fnExactIsClueSpec)

/-- 'laws.FnExactCountAllWithin', WHERE WHAT IT READS IS OF BULK AT MOST 1048576: true; the input reads as it did. -/
def fnExactCountAllWithinUptoRow : OpenClaim := { program := "ytfmnphonbklkfaa", sum := "5f1dca8640a47932f9ed7013b9f7ebb6cbbb7fa8347eb6640b154a50c2113824", func := "loop.example/g01335/laws.FnExactCountAllWithin", spec := "fnExactCountAllWithin", apart := false, narrowed := true }
def FnExactCountAllWithinUptoSaid : Prop := fnExactCountAllWithinUptoRow.holds Try.pinned (OpenSpec.upto fnExactCountAllWithinSpec)

/-- 'laws.FnExactCountTogether', WHERE WHAT IT READS IS OF BULK AT MOST 1048576: true; the input reads as it did. -/
def fnExactCountTogetherUptoRow : OpenClaim := { program := "ytfmnphonbklkfaa", sum := "5f1dca8640a47932f9ed7013b9f7ebb6cbbb7fa8347eb6640b154a50c2113824", func := "loop.example/g01335/laws.FnExactCountTogether", spec := "fnExactCountTogether", apart := false, narrowed := true }
def FnExactCountTogetherUptoSaid : Prop := fnExactCountTogetherUptoRow.holds Try.pinned (OpenSpec.upto fnExactCountTogetherSpec)

/-- 'laws.FnExactChanceOfStays', WHERE WHAT IT READS IS OF BULK AT MOST 1048576: true; the input reads as it did. -/
def fnExactChanceOfStaysUptoRow : OpenClaim := { program := "ytfmnphonbklkfaa", sum := "5f1dca8640a47932f9ed7013b9f7ebb6cbbb7fa8347eb6640b154a50c2113824", func := "loop.example/g01335/laws.FnExactChanceOfStays", spec := "fnExactChanceOfStays", apart := false, narrowed := true }
def FnExactChanceOfStaysUptoSaid : Prop := fnExactChanceOfStaysUptoRow.holds Try.pinned (OpenSpec.upto fnExactChanceOfStaysSpec)

/-- 'laws.FnExactMeanApart', WHERE WHAT IT READS IS OF BULK AT MOST 1048576: true; the input reads as it did. -/
def fnExactMeanApartUptoRow : OpenClaim := { program := "ytfmnphonbklkfaa", sum := "5f1dca8640a47932f9ed7013b9f7ebb6cbbb7fa8347eb6640b154a50c2113824", func := "loop.example/g01335/laws.FnExactMeanApart", spec := "fnExactMeanApart", apart := false, narrowed := true }
def FnExactMeanApartUptoSaid : Prop := fnExactMeanApartUptoRow.holds Try.pinned (OpenSpec.upto fnExactMeanApartSpec)

/-- 'laws.FnExactEvenChance', WHERE WHAT IT READS IS OF BULK AT MOST 1048576: true; the input reads as it did. -/
def fnExactEvenChanceUptoRow : OpenClaim := { program := "ytfmnphonbklkfaa", sum := "5f1dca8640a47932f9ed7013b9f7ebb6cbbb7fa8347eb6640b154a50c2113824", func := "loop.example/g01335/laws.FnExactEvenChance", spec := "fnExactEvenChance", apart := false, narrowed := true }
def FnExactEvenChanceUptoSaid : Prop := fnExactEvenChanceUptoRow.holds Try.pinned (OpenSpec.upto fnExactEvenChanceSpec)

/-- 'laws.FnExactFirstDesk', WHERE WHAT IT READS IS OF BULK AT MOST 1048576: true; the input reads as it did. -/
def fnExactFirstDeskUptoRow : OpenClaim := { program := "ytfmnphonbklkfaa", sum := "5f1dca8640a47932f9ed7013b9f7ebb6cbbb7fa8347eb6640b154a50c2113824", func := "loop.example/g01335/laws.FnExactFirstDesk", spec := "fnExactFirstDesk", apart := false, narrowed := true }
def FnExactFirstDeskUptoSaid : Prop := fnExactFirstDeskUptoRow.holds Try.pinned (OpenSpec.upto fnExactFirstDeskSpec)

/-- 'laws.FnExactAreVisits', WHERE WHAT IT READS IS OF BULK AT MOST 1048576: true; the input reads as it did. -/
def fnExactAreVisitsUptoRow : OpenClaim := { program := "ytfmnphonbklkfaa", sum := "5f1dca8640a47932f9ed7013b9f7ebb6cbbb7fa8347eb6640b154a50c2113824", func := "loop.example/g01335/laws.FnExactAreVisits", spec := "fnExactAreVisits", unfollowed := true, recurses := true, apart := false, narrowed := true }
def FnExactAreVisitsUptoSaid : Prop := fnExactAreVisitsUptoRow.holds Try.pinned (OpenSpec.upto fnExactAreVisitsSpec)

/-- 'laws.FnExactChanceTogether', WHERE WHAT IT READS IS OF BULK AT MOST 1048576: true; the input reads as it did. -/
def fnExactChanceTogetherUptoRow : OpenClaim := { program := "ytfmnphonbklkfaa", sum := "5f1dca8640a47932f9ed7013b9f7ebb6cbbb7fa8347eb6640b154a50c2113824", func := "loop.example/g01335/laws.FnExactChanceTogether", spec := "fnExactChanceTogether", apart := false, narrowed := true }
def FnExactChanceTogetherUptoSaid : Prop := fnExactChanceTogetherUptoRow.holds Try.pinned (OpenSpec.upto fnExactChanceTogetherSpec)

/-- 'laws.FnExactStaysNeeded', WHERE WHAT IT READS IS OF BULK AT MOST 1048576: true; the input reads as it did. -/
def fnExactStaysNeededUptoRow : OpenClaim := { program := "ytfmnphonbklkfaa", sum := "5f1dca8640a47932f9ed7013b9f7ebb6cbbb7fa8347eb6640b154a50c2113824", func := "loop.example/g01335/laws.FnExactStaysNeeded", spec := "fnExactStaysNeeded", apart := false, narrowed := true }
def FnExactStaysNeededUptoSaid : Prop := fnExactStaysNeededUptoRow.holds Try.pinned (OpenSpec.upto fnExactStaysNeededSpec)

/-- 'laws.FnExactIsDesk', WHERE WHAT IT READS IS OF BULK AT MOST 1048576: true; the input reads as it did. -/
def fnExactIsDeskUptoRow : OpenClaim := { program := "ytfmnphonbklkfaa", sum := "5f1dca8640a47932f9ed7013b9f7ebb6cbbb7fa8347eb6640b154a50c2113824", func := "loop.example/g01335/laws.FnExactIsDesk", spec := "fnExactIsDesk", unfollowed := true, recurses := true, apart := false, narrowed := true }
def FnExactIsDeskUptoSaid : Prop := fnExactIsDeskUptoRow.holds Try.pinned (OpenSpec.upto fnExactIsDeskSpec)

end Rows
end Go.Proofs.Ytfmnphonbklkfaa
