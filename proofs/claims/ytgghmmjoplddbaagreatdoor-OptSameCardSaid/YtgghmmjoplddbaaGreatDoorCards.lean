/-
  DERIVED. GIVEN WITH THE SEED: THE CARDS: each row of YtgghmmjoplddbaaGreatDoorRows.lean that lists a variable, with what it lists TIED to the program's text (the seventh form; the later family's looks); each row that meets fmt, with fmt's text TOLD by the authors' own Lean function (tested against real Go, not proved from fmt's source: count such statements apart). THE CARD IS WHAT COUNTS. Prove the row's statement (the work); the ties are given (YtgghmmjoplddbaaGreatDoorTie.lean); close each card by the builder's one call (the guide's Derived/Test/ToyasCard.lean, 'card_holds'). Laid BY PROGRAM, IN A SANDBOX (cutbox-door.mjs). By AI agents, Wed Nov 11 2026. No macro, syntax, notation, axiom, sorry.
-/
import Derived.Test.YtgghmmjoplddbaaGreatDoorRows
import GoSem.ClaimSeven
namespace Go.Proofs.YtgghmmjoplddbaaGreatDoor
namespace Rows

/-- THE TIED CARD OF 'shuntlaw17.LintSame'. -/
def lintSameCard : Claim7 := { stood := { row := lintSameRow, standIns := [], harness := (true, "cb4dd7f87a8124daed8876b7ddac4451f57a0686259645a685fb585fd3199a76"), looks := true }, kinds := [], alts := [], laidByText := true, laidKinds := [.data, .data, .data, .data, .sentinel, .sentinel, .data, .data, .pinned], laidTests := true, laidLooks := .later }
def LintSameCardSaid : Prop := Claim7.holds Tryz.pinned (.plain (OpenSpec.ofChange lintSameSpec)) lintSameCard

/-- THE TIED CARD OF 'shuntlaw17.LintSound'. -/
def lintSoundCard : Claim7 := { stood := { row := lintSoundRow, standIns := [], harness := (true, "cb4dd7f87a8124daed8876b7ddac4451f57a0686259645a685fb585fd3199a76"), looks := true }, kinds := [], alts := [], laidByText := true, laidKinds := [.data, .data, .data, .data, .sentinel, .sentinel, .data, .data, .pinned], laidTests := true, laidLooks := .later }
def LintSoundCardSaid : Prop := Claim7.holds Tryz.pinned (.plain (OpenSpec.ofChange lintSoundSpec)) lintSoundCard

/-- THE TIED CARD OF 'shuntlaw22.OptSame'. -/
def optSameCard : Claim7 := { stood := { row := optSameRow, standIns := [], harness := (true, "cb4dd7f87a8124daed8876b7ddac4451f57a0686259645a685fb585fd3199a76"), looks := true }, kinds := [], alts := [], laidByText := true, laidKinds := [.data, .data, .data, .data, .sentinel, .sentinel, .data, .pinned], laidTests := true, laidLooks := .later }
def OptSameCardSaid : Prop := Claim7.holds Tryz.pinned (.plain (OpenSpec.ofChange optSameSpec)) optSameCard

/-- THE SECOND FORM's CARD OF 'shuntlaw17.LintSame'. -/
def lintSameUptoCard : Claim7 := { stood := { row := lintSameUptoRow, standIns := [], harness := (true, "cb4dd7f87a8124daed8876b7ddac4451f57a0686259645a685fb585fd3199a76"), looks := true }, kinds := [], alts := [], laidByText := true, laidKinds := [.data, .data, .data, .data, .sentinel, .sentinel, .data, .data, .pinned], laidTests := true, laidLooks := .later }
def LintSameUptoCardSaid : Prop := Claim7.holds Tryz.pinned (.plain (OpenSpec.upto lintSameSpec)) lintSameUptoCard

/-- THE SECOND FORM's CARD OF 'shuntlaw17.LintSound'. -/
def lintSoundUptoCard : Claim7 := { stood := { row := lintSoundUptoRow, standIns := [], harness := (true, "cb4dd7f87a8124daed8876b7ddac4451f57a0686259645a685fb585fd3199a76"), looks := true }, kinds := [], alts := [], laidByText := true, laidKinds := [.data, .data, .data, .data, .sentinel, .sentinel, .data, .data, .pinned], laidTests := true, laidLooks := .later }
def LintSoundUptoCardSaid : Prop := Claim7.holds Tryz.pinned (.plain (OpenSpec.upto lintSoundSpec)) lintSoundUptoCard

/-- THE SECOND FORM's CARD OF 'shuntlaw22.OptSame'. -/
def optSameUptoCard : Claim7 := { stood := { row := optSameUptoRow, standIns := [], harness := (true, "cb4dd7f87a8124daed8876b7ddac4451f57a0686259645a685fb585fd3199a76"), looks := true }, kinds := [], alts := [], laidByText := true, laidKinds := [.data, .data, .data, .data, .sentinel, .sentinel, .data, .pinned], laidTests := true, laidLooks := .later }
def OptSameUptoCardSaid : Prop := Claim7.holds Tryz.pinned (.plain (OpenSpec.upto optSameSpec)) optSameUptoCard
end Rows
end Go.Proofs.YtgghmmjoplddbaaGreatDoor
