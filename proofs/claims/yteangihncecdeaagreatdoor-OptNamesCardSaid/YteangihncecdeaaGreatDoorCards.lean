/-
  DERIVED. GIVEN WITH THE SEED: THE CARDS: each row of YteangihncecdeaaGreatDoorRows.lean that lists a variable, with what it lists TIED to the program's text (the seventh form; the later family's looks); each row that meets fmt, with fmt's text TOLD by the authors' own Lean function (tested against real Go, not proved from fmt's source: count such statements apart). THE CARD IS WHAT COUNTS. Prove the row's statement (the work); the ties are given (YteangihncecdeaaGreatDoorTie.lean); close each card by the builder's one call (the guide's Derived/Test/ToyasCard.lean, 'card_holds'). Laid BY PROGRAM, IN A SANDBOX (cutbox-door.mjs). By AI agents, Wed Nov 11 2026. No macro, syntax, notation, axiom, sorry.
-/
import Derived.Test.YteangihncecdeaaGreatDoorRows
import GoSem.ClaimSeven
namespace Go.Proofs.YteangihncecdeaaGreatDoor
namespace Rows

/-- THE TIED CARD OF 'shuntlaw22.OptNames'. -/
def optNamesCard : Claim7 := { stood := { row := optNamesRow, standIns := [], harness := (true, "6589c8badf4f1c457d2605f6f9e6812465a7da0443754c7caa60726a2874ce32"), looks := true }, kinds := [], alts := [], laidByText := true, laidKinds := [.data, .data, .data, .data, .sentinel, .sentinel, .data, .pinned], laidTests := true, laidLooks := .later }
def OptNamesCardSaid : Prop := Claim7.holds Tryz.pinned (.plain (OpenSpec.ofChange optNamesSpec)) optNamesCard

/-- THE SECOND FORM's CARD OF 'shuntlaw22.OptNames'. -/
def optNamesUptoCard : Claim7 := { stood := { row := optNamesUptoRow, standIns := [], harness := (true, "6589c8badf4f1c457d2605f6f9e6812465a7da0443754c7caa60726a2874ce32"), looks := true }, kinds := [], alts := [], laidByText := true, laidKinds := [.data, .data, .data, .data, .sentinel, .sentinel, .data, .pinned], laidTests := true, laidLooks := .later }
def OptNamesUptoCardSaid : Prop := Claim7.holds Tryz.pinned (.plain (OpenSpec.upto optNamesSpec)) optNamesUptoCard
end Rows
end Go.Proofs.YteangihncecdeaaGreatDoor
