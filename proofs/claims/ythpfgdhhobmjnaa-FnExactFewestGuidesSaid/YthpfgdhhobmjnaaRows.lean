/-
  No cell of these rows narrows 'for every input' (looked for: loops, veiled, ifaces, maps, wideKeys, modest, calm, conditions, laid).
  DERIVED. THE GIVEN ROWS OF THIS SEAT. 8 by the template 'for every input the law returns true; each argument reads behind the call as it read before'; 0 by the template 'total and deterministic' (their statements: YthpfgdhhobmjnaaTotals.lean).
  GIVEN WITH THE SEED: the statements are not yours to turn. If you find one false, say at which input.
  Laid BY PROGRAM, IN A SANDBOX (cutbox-rows.mjs): the forced cells as the released guide's own fill.sh prints them over the translation b8acab9de12392b7… (all of the seat's roots in one cut). By AI agents, Wed Nov 11 2026. No macro, syntax, notation, axiom, sorry.
-/
import Derived.Test.YthpfgdhhobmjnaaChecked
import GoSem.Claim
import GoSem.ClaimJoined
import GoSem.ClaimMapViews
import Derived.JoinedTies
import Derived.KernelRfl
namespace Go.Proofs.Ythpfgdhhobmjnaa
/- THE CELL 'sum', in the pinned program and in every row, IS THE sha256 OF THE DUMP (.gsa) THAT YthpfgdhhobmjnaaProg.lean LOADS. Nothing in Lean hashes anything: it is a label: what it is worth is what the hold of that sum in a sandbox is worth. -/
noncomputable def Try.pinned : Pinned := { name := "ythpfgdhhobmjnaa", sum := "b8acab9de12392b751178557e5cc84cd9d392de2850e5bdcd45a246762c4706d", checked := Try.checked }
namespace Rows
def none {H : Type} : Left H := { results := [], args := [] }

/-- 'laws.FnExactAllThere': WHATEVER THE INPUT: true; the input reads as it did. -/
def fnExactAllThereSpec : ChangeSpec := { name := "fnExactAllThere", fn := fun _ => fun
  | [d] => { results := [.lit (.bool true)], args := [d] }
  | _ => none }
def fnExactAllThereRow : OpenClaim := { program := "ythpfgdhhobmjnaa", sum := "b8acab9de12392b751178557e5cc84cd9d392de2850e5bdcd45a246762c4706d", func := "loop.example/g01335/laws.FnExactAllThere", spec := "fnExactAllThere", unfollowed := true, recurses := true, apart := false }
def FnExactAllThereSaid : Prop := fnExactAllThereRow.holds Try.pinned (OpenSpec.ofChange fnExactAllThereSpec)

/-- ITS FALSE NEIGHBOUR: 'it returns false'. Refute it at one input. -/
def fnExactAllThereWrong : ChangeSpec := { name := "fnExactAllThere", fn := fun _ => fun
  | [d] => { results := [.lit (.bool false)], args := [d] }
  | _ => none }
def FnExactAllThereWrongFalsely : Prop := fnExactAllThereRow.holds Try.pinned (OpenSpec.ofChange fnExactAllThereWrong)

/-- 'laws.FnExactMostTogether': WHATEVER THE INPUT: true; the input reads as it did. -/
def fnExactMostTogetherSpec : ChangeSpec := { name := "fnExactMostTogether", fn := fun _ => fun
  | [d] => { results := [.lit (.bool true)], args := [d] }
  | _ => none }
def fnExactMostTogetherRow : OpenClaim := { program := "ythpfgdhhobmjnaa", sum := "b8acab9de12392b751178557e5cc84cd9d392de2850e5bdcd45a246762c4706d", func := "loop.example/g01335/laws.FnExactMostTogether", spec := "fnExactMostTogether", unfollowed := true, recurses := true, apart := false }
def FnExactMostTogetherSaid : Prop := fnExactMostTogetherRow.holds Try.pinned (OpenSpec.ofChange fnExactMostTogetherSpec)

/-- ITS FALSE NEIGHBOUR: 'it returns false'. Refute it at one input. -/
def fnExactMostTogetherWrong : ChangeSpec := { name := "fnExactMostTogether", fn := fun _ => fun
  | [d] => { results := [.lit (.bool false)], args := [d] }
  | _ => none }
def FnExactMostTogetherWrongFalsely : Prop := fnExactMostTogetherRow.holds Try.pinned (OpenSpec.ofChange fnExactMostTogetherWrong)

/-- 'laws.FnExactWhoIsThere': WHATEVER THE INPUT: true; the input reads as it did. -/
def fnExactWhoIsThereSpec : ChangeSpec := { name := "fnExactWhoIsThere", fn := fun _ => fun
  | [d1, d2] => { results := [.lit (.bool true)], args := [d1, d2] }
  | _ => none }
def fnExactWhoIsThereRow : OpenClaim := { program := "ythpfgdhhobmjnaa", sum := "b8acab9de12392b751178557e5cc84cd9d392de2850e5bdcd45a246762c4706d", func := "loop.example/g01335/laws.FnExactWhoIsThere", spec := "fnExactWhoIsThere", unfollowed := true, recurses := true, apart := false }
def FnExactWhoIsThereSaid : Prop := fnExactWhoIsThereRow.holds Try.pinned (OpenSpec.ofChange fnExactWhoIsThereSpec)

/-- ITS FALSE NEIGHBOUR: 'it returns false'. Refute it at one input. -/
def fnExactWhoIsThereWrong : ChangeSpec := { name := "fnExactWhoIsThere", fn := fun _ => fun
  | [d1, d2] => { results := [.lit (.bool false)], args := [d1, d2] }
  | _ => none }
def FnExactWhoIsThereWrongFalsely : Prop := fnExactWhoIsThereRow.holds Try.pinned (OpenSpec.ofChange fnExactWhoIsThereWrong)

/-- 'laws.FnExactPairsMeeting': WHATEVER THE INPUT: true; the input reads as it did. -/
def fnExactPairsMeetingSpec : ChangeSpec := { name := "fnExactPairsMeeting", fn := fun _ => fun
  | [d] => { results := [.lit (.bool true)], args := [d] }
  | _ => none }
def fnExactPairsMeetingRow : OpenClaim := { program := "ythpfgdhhobmjnaa", sum := "b8acab9de12392b751178557e5cc84cd9d392de2850e5bdcd45a246762c4706d", func := "loop.example/g01335/laws.FnExactPairsMeeting", spec := "fnExactPairsMeeting", unfollowed := true, recurses := true, apart := false }
def FnExactPairsMeetingSaid : Prop := fnExactPairsMeetingRow.holds Try.pinned (OpenSpec.ofChange fnExactPairsMeetingSpec)

/-- ITS FALSE NEIGHBOUR: 'it returns false'. Refute it at one input. -/
def fnExactPairsMeetingWrong : ChangeSpec := { name := "fnExactPairsMeeting", fn := fun _ => fun
  | [d] => { results := [.lit (.bool false)], args := [d] }
  | _ => none }
def FnExactPairsMeetingWrongFalsely : Prop := fnExactPairsMeetingRow.holds Try.pinned (OpenSpec.ofChange fnExactPairsMeetingWrong)

/-- 'laws.FnExactEmptyTimes': WHATEVER THE INPUT: true; the input reads as it did. -/
def fnExactEmptyTimesSpec : ChangeSpec := { name := "fnExactEmptyTimes", fn := fun _ => fun
  | [d1, d2] => { results := [.lit (.bool true)], args := [d1, d2] }
  | _ => none }
def fnExactEmptyTimesRow : OpenClaim := { program := "ythpfgdhhobmjnaa", sum := "b8acab9de12392b751178557e5cc84cd9d392de2850e5bdcd45a246762c4706d", func := "loop.example/g01335/laws.FnExactEmptyTimes", spec := "fnExactEmptyTimes", unfollowed := true, recurses := true, apart := false }
def FnExactEmptyTimesSaid : Prop := fnExactEmptyTimesRow.holds Try.pinned (OpenSpec.ofChange fnExactEmptyTimesSpec)

/-- ITS FALSE NEIGHBOUR: 'it returns false'. Refute it at one input. -/
def fnExactEmptyTimesWrong : ChangeSpec := { name := "fnExactEmptyTimes", fn := fun _ => fun
  | [d1, d2] => { results := [.lit (.bool false)], args := [d1, d2] }
  | _ => none }
def FnExactEmptyTimesWrongFalsely : Prop := fnExactEmptyTimesRow.holds Try.pinned (OpenSpec.ofChange fnExactEmptyTimesWrong)

/-- 'laws.FnExactShiftVisits': WHATEVER THE INPUT: true; the input reads as it did. -/
def fnExactShiftVisitsSpec : ChangeSpec := { name := "fnExactShiftVisits", fn := fun _ => fun
  | [d1, d2] => { results := [.lit (.bool true)], args := [d1, d2] }
  | _ => none }
def fnExactShiftVisitsRow : OpenClaim := { program := "ythpfgdhhobmjnaa", sum := "b8acab9de12392b751178557e5cc84cd9d392de2850e5bdcd45a246762c4706d", func := "loop.example/g01335/laws.FnExactShiftVisits", spec := "fnExactShiftVisits", unfollowed := true, recurses := true, apart := false }
def FnExactShiftVisitsSaid : Prop := fnExactShiftVisitsRow.holds Try.pinned (OpenSpec.ofChange fnExactShiftVisitsSpec)

/-- ITS FALSE NEIGHBOUR: 'it returns false'. Refute it at one input. -/
def fnExactShiftVisitsWrong : ChangeSpec := { name := "fnExactShiftVisits", fn := fun _ => fun
  | [d1, d2] => { results := [.lit (.bool false)], args := [d1, d2] }
  | _ => none }
def FnExactShiftVisitsWrongFalsely : Prop := fnExactShiftVisitsRow.holds Try.pinned (OpenSpec.ofChange fnExactShiftVisitsWrong)

/-- 'laws.FnVisitsChance': WHATEVER THE INPUT: true; the input reads as it did. -/
def fnVisitsChanceSpec : ChangeSpec := { name := "fnVisitsChance", fn := fun _ => fun
  | [d1, d2] => { results := [.lit (.bool true)], args := [d1, d2] }
  | _ => none }
def fnVisitsChanceRow : OpenClaim := { program := "ythpfgdhhobmjnaa", sum := "b8acab9de12392b751178557e5cc84cd9d392de2850e5bdcd45a246762c4706d", func := "loop.example/g01335/laws.FnVisitsChance", spec := "fnVisitsChance", apart := false }
def FnVisitsChanceSaid : Prop := fnVisitsChanceRow.holds Try.pinned (OpenSpec.ofChange fnVisitsChanceSpec)

/-- ITS FALSE NEIGHBOUR: 'it returns false'. Refute it at one input. -/
def fnVisitsChanceWrong : ChangeSpec := { name := "fnVisitsChance", fn := fun _ => fun
  | [d1, d2] => { results := [.lit (.bool false)], args := [d1, d2] }
  | _ => none }
def FnVisitsChanceWrongFalsely : Prop := fnVisitsChanceRow.holds Try.pinned (OpenSpec.ofChange fnVisitsChanceWrong)

/-- 'laws.FnExactFewestGuides': WHATEVER THE INPUT: true; the input reads as it did. -/
def fnExactFewestGuidesSpec : ChangeSpec := { name := "fnExactFewestGuides", fn := fun _ => fun
  | [d] => { results := [.lit (.bool true)], args := [d] }
  | _ => none }
def fnExactFewestGuidesRow : OpenClaim := { program := "ythpfgdhhobmjnaa", sum := "b8acab9de12392b751178557e5cc84cd9d392de2850e5bdcd45a246762c4706d", func := "loop.example/g01335/laws.FnExactFewestGuides", spec := "fnExactFewestGuides", unfollowed := true, recurses := true, apart := false }
def FnExactFewestGuidesSaid : Prop := fnExactFewestGuidesRow.holds Try.pinned (OpenSpec.ofChange fnExactFewestGuidesSpec)

/-- ITS FALSE NEIGHBOUR: 'it returns false'. Refute it at one input. -/
def fnExactFewestGuidesWrong : ChangeSpec := { name := "fnExactFewestGuides", fn := fun _ => fun
  | [d] => { results := [.lit (.bool false)], args := [d] }
  | _ => none }
def FnExactFewestGuidesWrongFalsely : Prop := fnExactFewestGuidesRow.holds Try.pinned (OpenSpec.ofChange fnExactFewestGuidesWrong)

/- THE SECOND FORM. 'bulk': how many values and letters a reading holds, each counted each time it is reached (what is shared counts as often as it is met; a slice's spare places count too). A statement '..UptoSaid' is the law's where the arguments, and the package variables that the reading takes, are together of bulk at most 1048576: NARROWER than '..Said'. Prove '..Said' where nothing that the law and all that it calls make is longer than what came in: it says more and counts as full. Else prove '..UptoSaid'. A law counts once. -/
mutual
def uptoBulk {H : Type} : DataW H → Nat
  | .lit (.string bytes) => bytes.length + 1
  | .lit _ => 1
  | .nil => 1
  | .ptr d => uptoBulk d + 1
  | .slice elems spare => uptoBulkAll elems + uptoBulkAll spare + 1
  | .agg parts => uptoBulkAll parts + 1
  | .iface _ d => uptoBulk d + 1
  | .map entries => uptoBulkEntries entries + 1
  | .held _ => 1
def uptoBulkAll {H : Type} : List (DataW H) → Nat
  | [] => 0
  | d :: r => uptoBulk d + uptoBulkAll r
def uptoBulkEntries {H : Type} : List (Lit × DataW H) → Nat
  | [] => 0
  | x :: r => uptoBulkEntry x + uptoBulkEntries r
def uptoBulkEntry {H : Type} : Lit × DataW H → Nat
  | (.string bytes, d) => bytes.length + uptoBulk d + 1
  | (_, d) => uptoBulk d + 1
 end
def uptoSmall : (H : Type) → List (DataW H) → Bool := fun _ ds => decide (uptoBulkAll ds ≤ 1048576)
def OpenSpec.upto (s : _root_.Go.ChangeSpec) : _root_.Go.OpenSpec := { _root_.Go.OpenSpec.ofChange s with cond := some uptoSmall }

/-- 'laws.FnExactAllThere', WHERE WHAT IT READS IS OF BULK AT MOST 1048576: true; the input reads as it did. -/
def fnExactAllThereUptoRow : OpenClaim := { program := "ythpfgdhhobmjnaa", sum := "b8acab9de12392b751178557e5cc84cd9d392de2850e5bdcd45a246762c4706d", func := "loop.example/g01335/laws.FnExactAllThere", spec := "fnExactAllThere", unfollowed := true, recurses := true, apart := false, narrowed := true }
def FnExactAllThereUptoSaid : Prop := fnExactAllThereUptoRow.holds Try.pinned (OpenSpec.upto fnExactAllThereSpec)

/-- 'laws.FnExactMostTogether', WHERE WHAT IT READS IS OF BULK AT MOST 1048576: true; the input reads as it did. -/
def fnExactMostTogetherUptoRow : OpenClaim := { program := "ythpfgdhhobmjnaa", sum := "b8acab9de12392b751178557e5cc84cd9d392de2850e5bdcd45a246762c4706d", func := "loop.example/g01335/laws.FnExactMostTogether", spec := "fnExactMostTogether", unfollowed := true, recurses := true, apart := false, narrowed := true }
def FnExactMostTogetherUptoSaid : Prop := fnExactMostTogetherUptoRow.holds Try.pinned (OpenSpec.upto fnExactMostTogetherSpec)

/-- 'laws.FnExactWhoIsThere', WHERE WHAT IT READS IS OF BULK AT MOST 1048576: true; the input reads as it did. -/
def fnExactWhoIsThereUptoRow : OpenClaim := { program := "ythpfgdhhobmjnaa", sum := "b8acab9de12392b751178557e5cc84cd9d392de2850e5bdcd45a246762c4706d", func := "loop.example/g01335/laws.FnExactWhoIsThere", spec := "fnExactWhoIsThere", unfollowed := true, recurses := true, apart := false, narrowed := true }
def FnExactWhoIsThereUptoSaid : Prop := fnExactWhoIsThereUptoRow.holds Try.pinned (OpenSpec.upto fnExactWhoIsThereSpec)

/-- 'laws.FnExactPairsMeeting', WHERE WHAT IT READS IS OF BULK AT MOST 1048576: true; the input reads as it did. -/
def fnExactPairsMeetingUptoRow : OpenClaim := { program := "ythpfgdhhobmjnaa", sum := "b8acab9de12392b751178557e5cc84cd9d392de2850e5bdcd45a246762c4706d", func := "loop.example/g01335/laws.FnExactPairsMeeting", spec := "fnExactPairsMeeting", unfollowed := true, recurses := true, apart := false, narrowed := true }
def FnExactPairsMeetingUptoSaid : Prop := fnExactPairsMeetingUptoRow.holds Try.pinned (OpenSpec.upto fnExactPairsMeetingSpec)

/-- 'laws.FnExactEmptyTimes', WHERE WHAT IT READS IS OF BULK AT MOST 1048576: true; the input reads as it did. -/
def fnExactEmptyTimesUptoRow : OpenClaim := { program := "ythpfgdhhobmjnaa", sum := "b8acab9de12392b751178557e5cc84cd9d392de2850e5bdcd45a246762c4706d", func := "loop.example/g01335/laws.FnExactEmptyTimes", spec := "fnExactEmptyTimes", unfollowed := true, recurses := true, apart := false, narrowed := true }
def FnExactEmptyTimesUptoSaid : Prop := fnExactEmptyTimesUptoRow.holds Try.pinned (OpenSpec.upto fnExactEmptyTimesSpec)

/-- 'laws.FnExactShiftVisits', WHERE WHAT IT READS IS OF BULK AT MOST 1048576: true; the input reads as it did. -/
def fnExactShiftVisitsUptoRow : OpenClaim := { program := "ythpfgdhhobmjnaa", sum := "b8acab9de12392b751178557e5cc84cd9d392de2850e5bdcd45a246762c4706d", func := "loop.example/g01335/laws.FnExactShiftVisits", spec := "fnExactShiftVisits", unfollowed := true, recurses := true, apart := false, narrowed := true }
def FnExactShiftVisitsUptoSaid : Prop := fnExactShiftVisitsUptoRow.holds Try.pinned (OpenSpec.upto fnExactShiftVisitsSpec)

/-- 'laws.FnVisitsChance', WHERE WHAT IT READS IS OF BULK AT MOST 1048576: true; the input reads as it did. -/
def fnVisitsChanceUptoRow : OpenClaim := { program := "ythpfgdhhobmjnaa", sum := "b8acab9de12392b751178557e5cc84cd9d392de2850e5bdcd45a246762c4706d", func := "loop.example/g01335/laws.FnVisitsChance", spec := "fnVisitsChance", apart := false, narrowed := true }
def FnVisitsChanceUptoSaid : Prop := fnVisitsChanceUptoRow.holds Try.pinned (OpenSpec.upto fnVisitsChanceSpec)

/-- 'laws.FnExactFewestGuides', WHERE WHAT IT READS IS OF BULK AT MOST 1048576: true; the input reads as it did. -/
def fnExactFewestGuidesUptoRow : OpenClaim := { program := "ythpfgdhhobmjnaa", sum := "b8acab9de12392b751178557e5cc84cd9d392de2850e5bdcd45a246762c4706d", func := "loop.example/g01335/laws.FnExactFewestGuides", spec := "fnExactFewestGuides", unfollowed := true, recurses := true, apart := false, narrowed := true }
def FnExactFewestGuidesUptoSaid : Prop := fnExactFewestGuidesUptoRow.holds Try.pinned (OpenSpec.upto fnExactFewestGuidesSpec)

end Rows
end Go.Proofs.Ythpfgdhhobmjnaa
