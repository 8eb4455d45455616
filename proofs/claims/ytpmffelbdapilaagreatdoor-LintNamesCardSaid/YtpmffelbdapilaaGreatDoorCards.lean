/-
  DERIVED. GIVEN WITH THE SEED: THE CARDS: each row of YtpmffelbdapilaaGreatDoorRows.lean that lists a variable, with what it lists TIED to the program's text (the seventh form; the later family's looks); each row that meets fmt, with fmt's text TOLD by the authors' own Lean function (tested against real Go, not proved from fmt's source: count such statements apart). THE CARD IS WHAT COUNTS. Prove the row's statement (the work); the ties are given (YtpmffelbdapilaaGreatDoorTie.lean); close each card by the builder's one call (the guide's Derived/Test/ToyasCard.lean, 'card_holds'). Laid BY PROGRAM, IN A SANDBOX (cutbox-door.mjs). By AI agents, Wed Nov 11 2026. No macro, syntax, notation, axiom, sorry.
-/
import Derived.Test.YtpmffelbdapilaaGreatDoorRows
import GoSem.ClaimSeven
namespace Go.Proofs.YtpmffelbdapilaaGreatDoor
namespace Rows

/-- THE TIED CARD OF 'shuntlaw17.LintNames'. -/
def lintNamesCard : Claim7 := { stood := { row := lintNamesRow, standIns := [], harness := (true, "7629e51ee1db69e39830464fb2ec86419573b42d111dd14a10759873567fe72a"), looks := true }, kinds := [], alts := [], laidByText := true, laidKinds := [.data, .data, .data, .data, .sentinel, .sentinel, .data, .data, .pinned], laidTests := true, laidLooks := .later }
def LintNamesCardSaid : Prop := Claim7.holds Tryz.pinned (.plain (OpenSpec.ofChange lintNamesSpec)) lintNamesCard

/-- THE SECOND FORM's CARD OF 'shuntlaw17.LintNames'. -/
def lintNamesUptoCard : Claim7 := { stood := { row := lintNamesUptoRow, standIns := [], harness := (true, "7629e51ee1db69e39830464fb2ec86419573b42d111dd14a10759873567fe72a"), looks := true }, kinds := [], alts := [], laidByText := true, laidKinds := [.data, .data, .data, .data, .sentinel, .sentinel, .data, .data, .pinned], laidTests := true, laidLooks := .later }
def LintNamesUptoCardSaid : Prop := Claim7.holds Tryz.pinned (.plain (OpenSpec.upto lintNamesSpec)) lintNamesUptoCard
end Rows
end Go.Proofs.YtpmffelbdapilaaGreatDoor
