/-
  DERIVED. GIVEN WITH THE SEED: THE CARDS: each row of YtlibgicponpecaaGreatDoorRows.lean that lists a variable, with what it lists TIED to the program's text (the seventh form; the later family's looks); each row that meets fmt, with fmt's text TOLD by the authors' own Lean function (tested against real Go, not proved from fmt's source: count such statements apart). THE CARD IS WHAT COUNTS. Prove the row's statement (the work); the ties are given (YtlibgicponpecaaGreatDoorTie.lean); close each card by the builder's one call (the guide's Derived/Test/ToyasCard.lean, 'card_holds'). Laid BY PROGRAM, IN A SANDBOX (cutbox-door.mjs). By AI agents, Wed Nov 11 2026. No macro, syntax, notation, axiom, sorry.
-/
import Derived.Test.YtlibgicponpecaaGreatDoorRows
import GoSem.ClaimSeven
namespace Go.Proofs.YtlibgicponpecaaGreatDoor
namespace Rows

/-- THE TIED CARD OF 'laws.FnSnailsGuessedOfAll'. -/
def fnSnailsGuessedOfAllCard : Claim7 := { stood := { row := fnSnailsGuessedOfAllRow, standIns := [], harness := (true, "e53c4e1c5d89eb151d20a93349922e511e376114edadd1c8b926f7b53deaf14a"), looks := true }, kinds := [], alts := [], laidByText := true, laidKinds := [.data, .data, .data, .data, .sentinel, .sentinel, .pinned], laidTests := true, laidLooks := .later }
def FnSnailsGuessedOfAllCardSaid : Prop := Claim7.holds Tryz.pinned (.plain (OpenSpec.ofChange fnSnailsGuessedOfAllSpec)) fnSnailsGuessedOfAllCard

/-- THE TIED CARD OF 'laws.FnSnailsGuessed'. -/
def fnSnailsGuessedCard : Claim7 := { stood := { row := fnSnailsGuessedRow, standIns := [], harness := (true, "e53c4e1c5d89eb151d20a93349922e511e376114edadd1c8b926f7b53deaf14a"), looks := true }, kinds := [], alts := [], laidByText := true, laidKinds := [.data, .data, .data, .data, .sentinel, .sentinel, .pinned], laidTests := true, laidLooks := .later }
def FnSnailsGuessedCardSaid : Prop := Claim7.holds Tryz.pinned (.plain (OpenSpec.ofChange fnSnailsGuessedSpec)) fnSnailsGuessedCard

/-- THE SECOND FORM's CARD OF 'laws.FnSnailsGuessedOfAll'. -/
def fnSnailsGuessedOfAllUptoCard : Claim7 := { stood := { row := fnSnailsGuessedOfAllUptoRow, standIns := [], harness := (true, "e53c4e1c5d89eb151d20a93349922e511e376114edadd1c8b926f7b53deaf14a"), looks := true }, kinds := [], alts := [], laidByText := true, laidKinds := [.data, .data, .data, .data, .sentinel, .sentinel, .pinned], laidTests := true, laidLooks := .later }
def FnSnailsGuessedOfAllUptoCardSaid : Prop := Claim7.holds Tryz.pinned (.plain (OpenSpec.upto fnSnailsGuessedOfAllSpec)) fnSnailsGuessedOfAllUptoCard

/-- THE SECOND FORM's CARD OF 'laws.FnSnailsGuessed'. -/
def fnSnailsGuessedUptoCard : Claim7 := { stood := { row := fnSnailsGuessedUptoRow, standIns := [], harness := (true, "e53c4e1c5d89eb151d20a93349922e511e376114edadd1c8b926f7b53deaf14a"), looks := true }, kinds := [], alts := [], laidByText := true, laidKinds := [.data, .data, .data, .data, .sentinel, .sentinel, .pinned], laidTests := true, laidLooks := .later }
def FnSnailsGuessedUptoCardSaid : Prop := Claim7.holds Tryz.pinned (.plain (OpenSpec.upto fnSnailsGuessedSpec)) fnSnailsGuessedUptoCard
end Rows
end Go.Proofs.YtlibgicponpecaaGreatDoor
