/-
  DERIVED. GIVEN WITH THE SEED: THE CARDS: each row of YtlbiogokpadaoaaGreatDoorRows.lean that lists a variable, with what it lists TIED to the program's text (the seventh form; the later family's looks); each row that meets fmt, with fmt's text TOLD by the authors' own Lean function (tested against real Go, not proved from fmt's source: count such statements apart). THE CARD IS WHAT COUNTS. Prove the row's statement (the work); the ties are given (YtlbiogokpadaoaaGreatDoorTie.lean); close each card by the builder's one call (the guide's Derived/Test/ToyasCard.lean, 'card_holds'). Laid BY PROGRAM, IN A SANDBOX (cutbox-door.mjs). By AI agents, Wed Nov 11 2026. No macro, syntax, notation, axiom, sorry.
-/
import Derived.Test.YtlbiogokpadaoaaGreatDoorRows
import GoSem.ClaimSeven
namespace Go.Proofs.YtlbiogokpadaoaaGreatDoor
namespace Rows

/-- THE TIED CARD OF 'shuntlaw22.OptFolds'. -/
def optFoldsCard : Claim7 := { stood := { row := optFoldsRow, standIns := [], harness := (true, "1bfe44508c5e2b812078b47965b4a90e304e4d88e6503928636cd173c8552472"), looks := true }, kinds := [], alts := [], laidByText := true, laidKinds := [.data], laidTests := true, laidLooks := .later }
def OptFoldsCardSaid : Prop := Claim7.holds Tryz.pinned (.plain (OpenSpec.ofChange optFoldsSpec)) optFoldsCard

/-- THE TIED CARD OF 'shuntlaw22.OptThreads'. -/
def optThreadsCard : Claim7 := { stood := { row := optThreadsRow, standIns := [], harness := (true, "1bfe44508c5e2b812078b47965b4a90e304e4d88e6503928636cd173c8552472"), looks := true }, kinds := [], alts := [], laidByText := true, laidKinds := [.data], laidTests := true, laidLooks := .later }
def OptThreadsCardSaid : Prop := Claim7.holds Tryz.pinned (.plain (OpenSpec.ofChange optThreadsSpec)) optThreadsCard

/-- THE TIED CARD OF 'shuntlaw22.OptDrops'. -/
def optDropsCard : Claim7 := { stood := { row := optDropsRow, standIns := [], harness := (true, "1bfe44508c5e2b812078b47965b4a90e304e4d88e6503928636cd173c8552472"), looks := true }, kinds := [], alts := [], laidByText := true, laidKinds := [.data], laidTests := true, laidLooks := .later }
def OptDropsCardSaid : Prop := Claim7.holds Tryz.pinned (.plain (OpenSpec.ofChange optDropsSpec)) optDropsCard

/-- THE TIED CARD OF 'shuntlaw22.OptWhole'. -/
def optWholeCard : Claim7 := { stood := { row := optWholeRow, standIns := [], harness := (true, "1bfe44508c5e2b812078b47965b4a90e304e4d88e6503928636cd173c8552472"), looks := true }, kinds := [], alts := [], laidByText := true, laidKinds := [.data], laidTests := true, laidLooks := .later }
def OptWholeCardSaid : Prop := Claim7.holds Tryz.pinned (.plain (OpenSpec.ofChange optWholeSpec)) optWholeCard

/-- THE TIED CARD OF 'shuntlaw16.FlowCovers'. -/
def flowCoversCard : Claim7 := { stood := { row := flowCoversRow, standIns := [], harness := (true, "1bfe44508c5e2b812078b47965b4a90e304e4d88e6503928636cd173c8552472"), looks := true }, kinds := [], alts := [], laidByText := true, laidKinds := [.data, .data, .data, .data, .sentinel, .sentinel, .data, .pinned], laidTests := true, laidLooks := .later }
def FlowCoversCardSaid : Prop := Claim7.holds Tryz.pinned (.plain (OpenSpec.ofChange flowCoversSpec)) flowCoversCard

/-- THE TIED CARD OF 'shuntlaw16.FlowChain'. -/
def flowChainCard : Claim7 := { stood := { row := flowChainRow, standIns := [], harness := (true, "1bfe44508c5e2b812078b47965b4a90e304e4d88e6503928636cd173c8552472"), looks := true }, kinds := [], alts := [], laidByText := true, laidKinds := [.data, .data, .data, .data, .sentinel, .sentinel, .data, .pinned], laidTests := true, laidLooks := .later }
def FlowChainCardSaid : Prop := Claim7.holds Tryz.pinned (.plain (OpenSpec.ofChange flowChainSpec)) flowChainCard

/-- THE TIED CARD OF 'shuntlaw17.LintPart'. -/
def lintPartCard : Claim7 := { stood := { row := lintPartRow, standIns := [], harness := (true, "1bfe44508c5e2b812078b47965b4a90e304e4d88e6503928636cd173c8552472"), looks := true }, kinds := [], alts := [], laidByText := true, laidKinds := [.data, .data, .data, .data, .sentinel, .sentinel, .data, .data, .pinned], laidTests := true, laidLooks := .later }
def LintPartCardSaid : Prop := Claim7.holds Tryz.pinned (.plain (OpenSpec.ofChange lintPartSpec)) lintPartCard

/-- THE TIED CARD OF 'shuntlaw17.LintPlaces'. -/
def lintPlacesCard : Claim7 := { stood := { row := lintPlacesRow, standIns := [], harness := (true, "1bfe44508c5e2b812078b47965b4a90e304e4d88e6503928636cd173c8552472"), looks := true }, kinds := [], alts := [], laidByText := true, laidKinds := [.data, .data, .data, .data, .sentinel, .sentinel, .data, .data, .pinned], laidTests := true, laidLooks := .later }
def LintPlacesCardSaid : Prop := Claim7.holds Tryz.pinned (.plain (OpenSpec.ofChange lintPlacesSpec)) lintPlacesCard

/-- THE TIED CARD OF 'shuntlaw16.FlowSteps'. -/
def flowStepsCard : Claim7 := { stood := { row := flowStepsRow, standIns := [], harness := (true, "1bfe44508c5e2b812078b47965b4a90e304e4d88e6503928636cd173c8552472"), looks := true }, kinds := [], alts := [], laidByText := true, laidKinds := [.data, .data, .data, .data, .sentinel, .sentinel, .data, .pinned], laidTests := true, laidLooks := .later }
def FlowStepsCardSaid : Prop := Claim7.holds Tryz.pinned (.plain (OpenSpec.ofChange flowStepsSpec)) flowStepsCard

/-- THE TIED CARD OF 'shuntlaw22.OptShort'. -/
def optShortCard : Claim7 := { stood := { row := optShortRow, standIns := [], harness := (true, "1bfe44508c5e2b812078b47965b4a90e304e4d88e6503928636cd173c8552472"), looks := true }, kinds := [], alts := [], laidByText := true, laidKinds := [.data, .data, .data, .data, .sentinel, .sentinel, .data, .pinned], laidTests := true, laidLooks := .later }
def OptShortCardSaid : Prop := Claim7.holds Tryz.pinned (.plain (OpenSpec.ofChange optShortSpec)) optShortCard

/-- THE TIED CARD OF 'shuntlaw22.OptAgain'. -/
def optAgainCard : Claim7 := { stood := { row := optAgainRow, standIns := [], harness := (true, "1bfe44508c5e2b812078b47965b4a90e304e4d88e6503928636cd173c8552472"), looks := true }, kinds := [], alts := [], laidByText := true, laidKinds := [.data, .data, .data, .data, .sentinel, .sentinel, .data, .pinned], laidTests := true, laidLooks := .later }
def OptAgainCardSaid : Prop := Claim7.holds Tryz.pinned (.plain (OpenSpec.ofChange optAgainSpec)) optAgainCard

/-- THE TIED CARD OF 'shuntlaw22.OptClean'. -/
def optCleanCard : Claim7 := { stood := { row := optCleanRow, standIns := [], harness := (true, "1bfe44508c5e2b812078b47965b4a90e304e4d88e6503928636cd173c8552472"), looks := true }, kinds := [], alts := [], laidByText := true, laidKinds := [.data, .data, .data, .data, .sentinel, .sentinel, .data, .pinned], laidTests := true, laidLooks := .later }
def OptCleanCardSaid : Prop := Claim7.holds Tryz.pinned (.plain (OpenSpec.ofChange optCleanSpec)) optCleanCard

/-- THE SECOND FORM's CARD OF 'shuntlaw22.OptFolds'. -/
def optFoldsUptoCard : Claim7 := { stood := { row := optFoldsUptoRow, standIns := [], harness := (true, "1bfe44508c5e2b812078b47965b4a90e304e4d88e6503928636cd173c8552472"), looks := true }, kinds := [], alts := [], laidByText := true, laidKinds := [.data], laidTests := true, laidLooks := .later }
def OptFoldsUptoCardSaid : Prop := Claim7.holds Tryz.pinned (.plain (OpenSpec.upto optFoldsSpec)) optFoldsUptoCard

/-- THE SECOND FORM's CARD OF 'shuntlaw22.OptThreads'. -/
def optThreadsUptoCard : Claim7 := { stood := { row := optThreadsUptoRow, standIns := [], harness := (true, "1bfe44508c5e2b812078b47965b4a90e304e4d88e6503928636cd173c8552472"), looks := true }, kinds := [], alts := [], laidByText := true, laidKinds := [.data], laidTests := true, laidLooks := .later }
def OptThreadsUptoCardSaid : Prop := Claim7.holds Tryz.pinned (.plain (OpenSpec.upto optThreadsSpec)) optThreadsUptoCard

/-- THE SECOND FORM's CARD OF 'shuntlaw22.OptDrops'. -/
def optDropsUptoCard : Claim7 := { stood := { row := optDropsUptoRow, standIns := [], harness := (true, "1bfe44508c5e2b812078b47965b4a90e304e4d88e6503928636cd173c8552472"), looks := true }, kinds := [], alts := [], laidByText := true, laidKinds := [.data], laidTests := true, laidLooks := .later }
def OptDropsUptoCardSaid : Prop := Claim7.holds Tryz.pinned (.plain (OpenSpec.upto optDropsSpec)) optDropsUptoCard

/-- THE SECOND FORM's CARD OF 'shuntlaw22.OptWhole'. -/
def optWholeUptoCard : Claim7 := { stood := { row := optWholeUptoRow, standIns := [], harness := (true, "1bfe44508c5e2b812078b47965b4a90e304e4d88e6503928636cd173c8552472"), looks := true }, kinds := [], alts := [], laidByText := true, laidKinds := [.data], laidTests := true, laidLooks := .later }
def OptWholeUptoCardSaid : Prop := Claim7.holds Tryz.pinned (.plain (OpenSpec.upto optWholeSpec)) optWholeUptoCard

/-- THE SECOND FORM's CARD OF 'shuntlaw16.FlowCovers'. -/
def flowCoversUptoCard : Claim7 := { stood := { row := flowCoversUptoRow, standIns := [], harness := (true, "1bfe44508c5e2b812078b47965b4a90e304e4d88e6503928636cd173c8552472"), looks := true }, kinds := [], alts := [], laidByText := true, laidKinds := [.data, .data, .data, .data, .sentinel, .sentinel, .data, .pinned], laidTests := true, laidLooks := .later }
def FlowCoversUptoCardSaid : Prop := Claim7.holds Tryz.pinned (.plain (OpenSpec.upto flowCoversSpec)) flowCoversUptoCard

/-- THE SECOND FORM's CARD OF 'shuntlaw16.FlowChain'. -/
def flowChainUptoCard : Claim7 := { stood := { row := flowChainUptoRow, standIns := [], harness := (true, "1bfe44508c5e2b812078b47965b4a90e304e4d88e6503928636cd173c8552472"), looks := true }, kinds := [], alts := [], laidByText := true, laidKinds := [.data, .data, .data, .data, .sentinel, .sentinel, .data, .pinned], laidTests := true, laidLooks := .later }
def FlowChainUptoCardSaid : Prop := Claim7.holds Tryz.pinned (.plain (OpenSpec.upto flowChainSpec)) flowChainUptoCard

/-- THE SECOND FORM's CARD OF 'shuntlaw17.LintPart'. -/
def lintPartUptoCard : Claim7 := { stood := { row := lintPartUptoRow, standIns := [], harness := (true, "1bfe44508c5e2b812078b47965b4a90e304e4d88e6503928636cd173c8552472"), looks := true }, kinds := [], alts := [], laidByText := true, laidKinds := [.data, .data, .data, .data, .sentinel, .sentinel, .data, .data, .pinned], laidTests := true, laidLooks := .later }
def LintPartUptoCardSaid : Prop := Claim7.holds Tryz.pinned (.plain (OpenSpec.upto lintPartSpec)) lintPartUptoCard

/-- THE SECOND FORM's CARD OF 'shuntlaw17.LintPlaces'. -/
def lintPlacesUptoCard : Claim7 := { stood := { row := lintPlacesUptoRow, standIns := [], harness := (true, "1bfe44508c5e2b812078b47965b4a90e304e4d88e6503928636cd173c8552472"), looks := true }, kinds := [], alts := [], laidByText := true, laidKinds := [.data, .data, .data, .data, .sentinel, .sentinel, .data, .data, .pinned], laidTests := true, laidLooks := .later }
def LintPlacesUptoCardSaid : Prop := Claim7.holds Tryz.pinned (.plain (OpenSpec.upto lintPlacesSpec)) lintPlacesUptoCard

/-- THE SECOND FORM's CARD OF 'shuntlaw16.FlowSteps'. -/
def flowStepsUptoCard : Claim7 := { stood := { row := flowStepsUptoRow, standIns := [], harness := (true, "1bfe44508c5e2b812078b47965b4a90e304e4d88e6503928636cd173c8552472"), looks := true }, kinds := [], alts := [], laidByText := true, laidKinds := [.data, .data, .data, .data, .sentinel, .sentinel, .data, .pinned], laidTests := true, laidLooks := .later }
def FlowStepsUptoCardSaid : Prop := Claim7.holds Tryz.pinned (.plain (OpenSpec.upto flowStepsSpec)) flowStepsUptoCard

/-- THE SECOND FORM's CARD OF 'shuntlaw22.OptShort'. -/
def optShortUptoCard : Claim7 := { stood := { row := optShortUptoRow, standIns := [], harness := (true, "1bfe44508c5e2b812078b47965b4a90e304e4d88e6503928636cd173c8552472"), looks := true }, kinds := [], alts := [], laidByText := true, laidKinds := [.data, .data, .data, .data, .sentinel, .sentinel, .data, .pinned], laidTests := true, laidLooks := .later }
def OptShortUptoCardSaid : Prop := Claim7.holds Tryz.pinned (.plain (OpenSpec.upto optShortSpec)) optShortUptoCard

/-- THE SECOND FORM's CARD OF 'shuntlaw22.OptAgain'. -/
def optAgainUptoCard : Claim7 := { stood := { row := optAgainUptoRow, standIns := [], harness := (true, "1bfe44508c5e2b812078b47965b4a90e304e4d88e6503928636cd173c8552472"), looks := true }, kinds := [], alts := [], laidByText := true, laidKinds := [.data, .data, .data, .data, .sentinel, .sentinel, .data, .pinned], laidTests := true, laidLooks := .later }
def OptAgainUptoCardSaid : Prop := Claim7.holds Tryz.pinned (.plain (OpenSpec.upto optAgainSpec)) optAgainUptoCard

/-- THE SECOND FORM's CARD OF 'shuntlaw22.OptClean'. -/
def optCleanUptoCard : Claim7 := { stood := { row := optCleanUptoRow, standIns := [], harness := (true, "1bfe44508c5e2b812078b47965b4a90e304e4d88e6503928636cd173c8552472"), looks := true }, kinds := [], alts := [], laidByText := true, laidKinds := [.data, .data, .data, .data, .sentinel, .sentinel, .data, .pinned], laidTests := true, laidLooks := .later }
def OptCleanUptoCardSaid : Prop := Claim7.holds Tryz.pinned (.plain (OpenSpec.upto optCleanSpec)) optCleanUptoCard
end Rows
end Go.Proofs.YtlbiogokpadaoaaGreatDoor
