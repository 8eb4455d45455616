/-
  No cell of these rows narrows 'for every input' (looked for: loops, veiled, ifaces, maps, wideKeys, modest, calm, conditions, laid).
  DERIVED. THE GIVEN ROWS OF THIS SEAT. 12 by the template 'for every input the law returns true; each argument reads behind the call as it read before'; 0 by the template 'total and deterministic' (their statements: YtnedgfkgmdoahaaTotals.lean).
  GIVEN WITH THE SEED: the statements are not yours to turn. If you find one false, say at which input.
  Laid BY PROGRAM, IN A SANDBOX (cutbox-rows.mjs): the forced cells as the released guide's own fill.sh prints them over the translation 6ed1a1dddce52713… (all of the seat's roots in one cut). By AI agents, Wed Nov 11 2026. No macro, syntax, notation, axiom, sorry.
-/
import Derived.Test.YtnedgfkgmdoahaaChecked
import GoSem.Claim
import GoSem.ClaimJoined
import GoSem.ClaimMapViews
import Derived.JoinedTies
import Derived.KernelRfl
namespace Go.Proofs.Ytnedgfkgmdoahaa
/- THE CELL 'sum', in the pinned program and in every row, IS THE sha256 OF THE DUMP (.gsa) THAT YtnedgfkgmdoahaaProg.lean LOADS. Nothing in Lean hashes anything: it is a label: what it is worth is what the hold of that sum in a sandbox is worth. -/
noncomputable def Try.pinned : Pinned := { name := "ytnedgfkgmdoahaa", sum := "6ed1a1dddce52713e074f22a99e1f40999511a69e0bf23ace9727dc295d2f1ab", checked := Try.checked }
namespace Rows
def none {H : Type} : Left H := { results := [], args := [] }

/-- 'shuntlaw26.ClocksGuard': WHATEVER THE INPUT: true; the input reads as it did. -/
def clocksGuardSpec : ChangeSpec := { name := "clocksGuard", fn := fun _ => fun
  | [d1, d2] => { results := [.lit (.bool true)], args := [d1, d2] }
  | _ => none }
def clocksGuardRow : OpenClaim := { program := "ytnedgfkgmdoahaa", sum := "6ed1a1dddce52713e074f22a99e1f40999511a69e0bf23ace9727dc295d2f1ab", func := "shunt/shuntlaw26.ClocksGuard", spec := "clocksGuard", unfollowed := true, recurses := true, apart := false }
def ClocksGuardSaid : Prop := clocksGuardRow.holds Try.pinned (OpenSpec.ofChange clocksGuardSpec)

/-- ITS FALSE NEIGHBOUR: 'it returns false'. Refute it at one input. -/
def clocksGuardWrong : ChangeSpec := { name := "clocksGuard", fn := fun _ => fun
  | [d1, d2] => { results := [.lit (.bool false)], args := [d1, d2] }
  | _ => none }
def ClocksGuardWrongFalsely : Prop := clocksGuardRow.holds Try.pinned (OpenSpec.ofChange clocksGuardWrong)

/-- 'shuntlaw26.ClocksTell': WHATEVER THE INPUT: true; the input reads as it did. -/
def clocksTellSpec : ChangeSpec := { name := "clocksTell", fn := fun _ => fun
  | [d1, d2, d3] => { results := [.lit (.bool true)], args := [d1, d2, d3] }
  | _ => none }
def clocksTellRow : OpenClaim := { program := "ytnedgfkgmdoahaa", sum := "6ed1a1dddce52713e074f22a99e1f40999511a69e0bf23ace9727dc295d2f1ab", func := "shunt/shuntlaw26.ClocksTell", spec := "clocksTell", unfollowed := true, recurses := true, apart := false }
def ClocksTellSaid : Prop := clocksTellRow.holds Try.pinned (OpenSpec.ofChange clocksTellSpec)

/-- ITS FALSE NEIGHBOUR: 'it returns false'. Refute it at one input. -/
def clocksTellWrong : ChangeSpec := { name := "clocksTell", fn := fun _ => fun
  | [d1, d2, d3] => { results := [.lit (.bool false)], args := [d1, d2, d3] }
  | _ => none }
def ClocksTellWrongFalsely : Prop := clocksTellRow.holds Try.pinned (OpenSpec.ofChange clocksTellWrong)

/-- 'shuntlaw26.ClocksOrder': WHATEVER THE INPUT: true; the input reads as it did. -/
def clocksOrderSpec : ChangeSpec := { name := "clocksOrder", fn := fun _ => fun
  | [d1, d2] => { results := [.lit (.bool true)], args := [d1, d2] }
  | _ => none }
def clocksOrderRow : OpenClaim := { program := "ytnedgfkgmdoahaa", sum := "6ed1a1dddce52713e074f22a99e1f40999511a69e0bf23ace9727dc295d2f1ab", func := "shunt/shuntlaw26.ClocksOrder", spec := "clocksOrder", unfollowed := true, recurses := true, apart := false }
def ClocksOrderSaid : Prop := clocksOrderRow.holds Try.pinned (OpenSpec.ofChange clocksOrderSpec)

/-- ITS FALSE NEIGHBOUR: 'it returns false'. Refute it at one input. -/
def clocksOrderWrong : ChangeSpec := { name := "clocksOrder", fn := fun _ => fun
  | [d1, d2] => { results := [.lit (.bool false)], args := [d1, d2] }
  | _ => none }
def ClocksOrderWrongFalsely : Prop := clocksOrderRow.holds Try.pinned (OpenSpec.ofChange clocksOrderWrong)

/-- 'shuntlaw26.ClocksRace': WHATEVER THE INPUT: true; the input reads as it did. -/
def clocksRaceSpec : ChangeSpec := { name := "clocksRace", fn := fun _ => fun
  | [d1, d2, d3] => { results := [.lit (.bool true)], args := [d1, d2, d3] }
  | _ => none }
def clocksRaceRow : OpenClaim := { program := "ytnedgfkgmdoahaa", sum := "6ed1a1dddce52713e074f22a99e1f40999511a69e0bf23ace9727dc295d2f1ab", func := "shunt/shuntlaw26.ClocksRace", spec := "clocksRace", unfollowed := true, recurses := true, apart := false }
def ClocksRaceSaid : Prop := clocksRaceRow.holds Try.pinned (OpenSpec.ofChange clocksRaceSpec)

/-- ITS FALSE NEIGHBOUR: 'it returns false'. Refute it at one input. -/
def clocksRaceWrong : ChangeSpec := { name := "clocksRace", fn := fun _ => fun
  | [d1, d2, d3] => { results := [.lit (.bool false)], args := [d1, d2, d3] }
  | _ => none }
def ClocksRaceWrongFalsely : Prop := clocksRaceRow.holds Try.pinned (OpenSpec.ofChange clocksRaceWrong)

/-- 'shuntlaw26.ClocksSums': WHATEVER THE INPUT: true; the input reads as it did. -/
def clocksSumsSpec : ChangeSpec := { name := "clocksSums", fn := fun _ => fun
  | [d] => { results := [.lit (.bool true)], args := [d] }
  | _ => none }
def clocksSumsRow : OpenClaim := { program := "ytnedgfkgmdoahaa", sum := "6ed1a1dddce52713e074f22a99e1f40999511a69e0bf23ace9727dc295d2f1ab", func := "shunt/shuntlaw26.ClocksSums", spec := "clocksSums", unfollowed := true, recurses := true, apart := false }
def ClocksSumsSaid : Prop := clocksSumsRow.holds Try.pinned (OpenSpec.ofChange clocksSumsSpec)

/-- ITS FALSE NEIGHBOUR: 'it returns false'. Refute it at one input. -/
def clocksSumsWrong : ChangeSpec := { name := "clocksSums", fn := fun _ => fun
  | [d] => { results := [.lit (.bool false)], args := [d] }
  | _ => none }
def ClocksSumsWrongFalsely : Prop := clocksSumsRow.holds Try.pinned (OpenSpec.ofChange clocksSumsWrong)

/-- 'shuntlaw26.ClocksOf': WHATEVER THE INPUT: true; the input reads as it did. -/
def clocksOfSpec : ChangeSpec := { name := "clocksOf", fn := fun _ => fun
  | [d] => { results := [.lit (.bool true)], args := [d] }
  | _ => none }
def clocksOfRow : OpenClaim := { program := "ytnedgfkgmdoahaa", sum := "6ed1a1dddce52713e074f22a99e1f40999511a69e0bf23ace9727dc295d2f1ab", func := "shunt/shuntlaw26.ClocksOf", spec := "clocksOf", unfollowed := true, recurses := true, apart := false }
def ClocksOfSaid : Prop := clocksOfRow.holds Try.pinned (OpenSpec.ofChange clocksOfSpec)

/-- ITS FALSE NEIGHBOUR: 'it returns false'. Refute it at one input. -/
def clocksOfWrong : ChangeSpec := { name := "clocksOf", fn := fun _ => fun
  | [d] => { results := [.lit (.bool false)], args := [d] }
  | _ => none }
def ClocksOfWrongFalsely : Prop := clocksOfRow.holds Try.pinned (OpenSpec.ofChange clocksOfWrong)

/-- 'shuntlaw12.HistTells': WHATEVER THE INPUT: true; the input reads as it did. -/
def histTellsSpec : ChangeSpec := { name := "histTells", fn := fun _ => fun
  | [d1, d2] => { results := [.lit (.bool true)], args := [d1, d2] }
  | _ => none }
def histTellsRow : OpenClaim := { program := "ytnedgfkgmdoahaa", sum := "6ed1a1dddce52713e074f22a99e1f40999511a69e0bf23ace9727dc295d2f1ab", func := "shunt/shuntlaw12.HistTells", spec := "histTells", unfollowed := true, recurses := true, apart := false }
def HistTellsSaid : Prop := histTellsRow.holds Try.pinned (OpenSpec.ofChange histTellsSpec)

/-- ITS FALSE NEIGHBOUR: 'it returns false'. Refute it at one input. -/
def histTellsWrong : ChangeSpec := { name := "histTells", fn := fun _ => fun
  | [d1, d2] => { results := [.lit (.bool false)], args := [d1, d2] }
  | _ => none }
def HistTellsWrongFalsely : Prop := histTellsRow.holds Try.pinned (OpenSpec.ofChange histTellsWrong)

/-- 'shuntlaw12.HistJudges': WHATEVER THE INPUT: true; the input reads as it did. -/
def histJudgesSpec : ChangeSpec := { name := "histJudges", fn := fun _ => fun
  | [d1, d2, d3] => { results := [.lit (.bool true)], args := [d1, d2, d3] }
  | _ => none }
def histJudgesRow : OpenClaim := { program := "ytnedgfkgmdoahaa", sum := "6ed1a1dddce52713e074f22a99e1f40999511a69e0bf23ace9727dc295d2f1ab", func := "shunt/shuntlaw12.HistJudges", spec := "histJudges", unfollowed := true, recurses := true, apart := false }
def HistJudgesSaid : Prop := histJudgesRow.holds Try.pinned (OpenSpec.ofChange histJudgesSpec)

/-- ITS FALSE NEIGHBOUR: 'it returns false'. Refute it at one input. -/
def histJudgesWrong : ChangeSpec := { name := "histJudges", fn := fun _ => fun
  | [d1, d2, d3] => { results := [.lit (.bool false)], args := [d1, d2, d3] }
  | _ => none }
def HistJudgesWrongFalsely : Prop := histJudgesRow.holds Try.pinned (OpenSpec.ofChange histJudgesWrong)

/-- 'shuntlaw12.HistSerial': WHATEVER THE INPUT: true; the input reads as it did. -/
def histSerialSpec : ChangeSpec := { name := "histSerial", fn := fun _ => fun
  | [d1, d2, d3] => { results := [.lit (.bool true)], args := [d1, d2, d3] }
  | _ => none }
def histSerialRow : OpenClaim := { program := "ytnedgfkgmdoahaa", sum := "6ed1a1dddce52713e074f22a99e1f40999511a69e0bf23ace9727dc295d2f1ab", func := "shunt/shuntlaw12.HistSerial", spec := "histSerial", unfollowed := true, recurses := true, apart := false }
def HistSerialSaid : Prop := histSerialRow.holds Try.pinned (OpenSpec.ofChange histSerialSpec)

/-- ITS FALSE NEIGHBOUR: 'it returns false'. Refute it at one input. -/
def histSerialWrong : ChangeSpec := { name := "histSerial", fn := fun _ => fun
  | [d1, d2, d3] => { results := [.lit (.bool false)], args := [d1, d2, d3] }
  | _ => none }
def HistSerialWrongFalsely : Prop := histSerialRow.holds Try.pinned (OpenSpec.ofChange histSerialWrong)

/-- 'shuntlaw12.HistParts': WHATEVER THE INPUT: true; the input reads as it did. -/
def histPartsSpec : ChangeSpec := { name := "histParts", fn := fun _ => fun
  | [d1, d2, d3] => { results := [.lit (.bool true)], args := [d1, d2, d3] }
  | _ => none }
def histPartsRow : OpenClaim := { program := "ytnedgfkgmdoahaa", sum := "6ed1a1dddce52713e074f22a99e1f40999511a69e0bf23ace9727dc295d2f1ab", func := "shunt/shuntlaw12.HistParts", spec := "histParts", unfollowed := true, recurses := true, apart := false }
def HistPartsSaid : Prop := histPartsRow.holds Try.pinned (OpenSpec.ofChange histPartsSpec)

/-- ITS FALSE NEIGHBOUR: 'it returns false'. Refute it at one input. -/
def histPartsWrong : ChangeSpec := { name := "histParts", fn := fun _ => fun
  | [d1, d2, d3] => { results := [.lit (.bool false)], args := [d1, d2, d3] }
  | _ => none }
def HistPartsWrongFalsely : Prop := histPartsRow.holds Try.pinned (OpenSpec.ofChange histPartsWrong)

/-- 'shuntlaw26.ClocksNames': WHATEVER THE INPUT: true; the input reads as it did. -/
def clocksNamesSpec : ChangeSpec := { name := "clocksNames", fn := fun _ => fun
  | [] => { results := [.lit (.bool true)], args := [] }
  | _ => none }
def clocksNamesRow : OpenClaim := { program := "ytnedgfkgmdoahaa", sum := "6ed1a1dddce52713e074f22a99e1f40999511a69e0bf23ace9727dc295d2f1ab", func := "shunt/shuntlaw26.ClocksNames", spec := "clocksNames", unfollowed := true, recurses := true, apart := false }
def ClocksNamesSaid : Prop := clocksNamesRow.holds Try.pinned (OpenSpec.ofChange clocksNamesSpec)

/-- ITS FALSE NEIGHBOUR: 'it returns false'. Refute it at one input. -/
def clocksNamesWrong : ChangeSpec := { name := "clocksNames", fn := fun _ => fun
  | [] => { results := [.lit (.bool false)], args := [] }
  | _ => none }
def ClocksNamesWrongFalsely : Prop := clocksNamesRow.holds Try.pinned (OpenSpec.ofChange clocksNamesWrong)

/-- 'shuntlaw12.HistNames': WHATEVER THE INPUT: true; the input reads as it did. -/
def histNamesSpec : ChangeSpec := { name := "histNames", fn := fun _ => fun
  | [] => { results := [.lit (.bool true)], args := [] }
  | _ => none }
def histNamesRow : OpenClaim := { program := "ytnedgfkgmdoahaa", sum := "6ed1a1dddce52713e074f22a99e1f40999511a69e0bf23ace9727dc295d2f1ab", func := "shunt/shuntlaw12.HistNames", spec := "histNames", unfollowed := true, recurses := true, apart := false }
def HistNamesSaid : Prop := histNamesRow.holds Try.pinned (OpenSpec.ofChange histNamesSpec)

/-- ITS FALSE NEIGHBOUR: 'it returns false'. Refute it at one input. -/
def histNamesWrong : ChangeSpec := { name := "histNames", fn := fun _ => fun
  | [] => { results := [.lit (.bool false)], args := [] }
  | _ => none }
def HistNamesWrongFalsely : Prop := histNamesRow.holds Try.pinned (OpenSpec.ofChange histNamesWrong)

/- THE SECOND FORM. 'bulk': how many values and letters a reading holds, each counted each time it is reached (what is shared counts as often as it is met; a slice's spare places count too). A statement '..UptoSaid' is the law's where the arguments, and the package variables that the reading takes, are together of bulk at most 1048576: NARROWER than '..Said'. Prove '..Said' where nothing that the law and all that it calls make is longer than what came in: it says more and counts as full. Else prove '..UptoSaid'. A law counts once. -/
mutual
def uptoBulk {H : Type} : DataW H → Nat
  | .lit (.string bytes) => bytes.length + 1
  | .lit _ => 1
  | .nil => 1
  | .ptr d => uptoBulk d + 1
  | .slice elems spare => uptoBulkAll elems + uptoBulkAll spare + 1
  | .agg parts => uptoBulkAll parts + 1
  | .iface _ d => uptoBulk d + 1
  | .map entries => uptoBulkEntries entries + 1
  | .held _ => 1
def uptoBulkAll {H : Type} : List (DataW H) → Nat
  | [] => 0
  | d :: r => uptoBulk d + uptoBulkAll r
def uptoBulkEntries {H : Type} : List (Lit × DataW H) → Nat
  | [] => 0
  | x :: r => uptoBulkEntry x + uptoBulkEntries r
def uptoBulkEntry {H : Type} : Lit × DataW H → Nat
  | (.string bytes, d) => bytes.length + uptoBulk d + 1
  | (_, d) => uptoBulk d + 1
 end
def uptoSmall : (H : Type) → List (DataW H) → Bool := fun _ ds => decide (uptoBulkAll ds ≤ 1048576)
def OpenSpec.upto (s : _root_.Go.ChangeSpec) : _root_.Go.OpenSpec := { _root_.Go.OpenSpec.ofChange s with cond := some uptoSmall }

/-- 'shuntlaw26.ClocksGuard', WHERE WHAT IT READS IS OF BULK AT MOST 1048576: true; the input reads as it did. -/
def clocksGuardUptoRow : OpenClaim := { program := "ytnedgfkgmdoahaa", sum := "6ed1a1dddce52713e074f22a99e1f40999511a69e0bf23ace9727dc295d2f1ab", func := "shunt/shuntlaw26.ClocksGuard", spec := "clocksGuard", unfollowed := true, recurses := true, apart := false, narrowed := true }
def ClocksGuardUptoSaid : Prop := clocksGuardUptoRow.holds Try.pinned (OpenSpec.upto clocksGuardSpec)

/-- 'shuntlaw26.ClocksTell', WHERE WHAT IT READS IS OF BULK AT MOST 1048576: true; the input reads as it did. -/
def clocksTellUptoRow : OpenClaim := { program := "ytnedgfkgmdoahaa", sum := "6ed1a1dddce52713e074f22a99e1f40999511a69e0bf23ace9727dc295d2f1ab", func := "shunt/shuntlaw26.ClocksTell", spec := "clocksTell", unfollowed := true, recurses := true, apart := false, narrowed := true }
def ClocksTellUptoSaid : Prop := clocksTellUptoRow.holds Try.pinned (OpenSpec.upto clocksTellSpec)

/-- 'shuntlaw26.ClocksOrder', WHERE WHAT IT READS IS OF BULK AT MOST 1048576: true; the input reads as it did. -/
def clocksOrderUptoRow : OpenClaim := { program := "ytnedgfkgmdoahaa", sum := "6ed1a1dddce52713e074f22a99e1f40999511a69e0bf23ace9727dc295d2f1ab", func := "shunt/shuntlaw26.ClocksOrder", spec := "clocksOrder", unfollowed := true, recurses := true, apart := false, narrowed := true }
def ClocksOrderUptoSaid : Prop := clocksOrderUptoRow.holds Try.pinned (OpenSpec.upto clocksOrderSpec)

/-- 'shuntlaw26.ClocksRace', WHERE WHAT IT READS IS OF BULK AT MOST 1048576: true; the input reads as it did. -/
def clocksRaceUptoRow : OpenClaim := { program := "ytnedgfkgmdoahaa", sum := "6ed1a1dddce52713e074f22a99e1f40999511a69e0bf23ace9727dc295d2f1ab", func := "shunt/shuntlaw26.ClocksRace", spec := "clocksRace", unfollowed := true, recurses := true, apart := false, narrowed := true }
def ClocksRaceUptoSaid : Prop := clocksRaceUptoRow.holds Try.pinned (OpenSpec.upto clocksRaceSpec)

/-- 'shuntlaw26.ClocksSums', WHERE WHAT IT READS IS OF BULK AT MOST 1048576: true; the input reads as it did. -/
def clocksSumsUptoRow : OpenClaim := { program := "ytnedgfkgmdoahaa", sum := "6ed1a1dddce52713e074f22a99e1f40999511a69e0bf23ace9727dc295d2f1ab", func := "shunt/shuntlaw26.ClocksSums", spec := "clocksSums", unfollowed := true, recurses := true, apart := false, narrowed := true }
def ClocksSumsUptoSaid : Prop := clocksSumsUptoRow.holds Try.pinned (OpenSpec.upto clocksSumsSpec)

/-- 'shuntlaw26.ClocksOf', WHERE WHAT IT READS IS OF BULK AT MOST 1048576: true; the input reads as it did. -/
def clocksOfUptoRow : OpenClaim := { program := "ytnedgfkgmdoahaa", sum := "6ed1a1dddce52713e074f22a99e1f40999511a69e0bf23ace9727dc295d2f1ab", func := "shunt/shuntlaw26.ClocksOf", spec := "clocksOf", unfollowed := true, recurses := true, apart := false, narrowed := true }
def ClocksOfUptoSaid : Prop := clocksOfUptoRow.holds Try.pinned (OpenSpec.upto clocksOfSpec)

/-- 'shuntlaw12.HistTells', WHERE WHAT IT READS IS OF BULK AT MOST 1048576: true; the input reads as it did. -/
def histTellsUptoRow : OpenClaim := { program := "ytnedgfkgmdoahaa", sum := "6ed1a1dddce52713e074f22a99e1f40999511a69e0bf23ace9727dc295d2f1ab", func := "shunt/shuntlaw12.HistTells", spec := "histTells", unfollowed := true, recurses := true, apart := false, narrowed := true }
def HistTellsUptoSaid : Prop := histTellsUptoRow.holds Try.pinned (OpenSpec.upto histTellsSpec)

/-- 'shuntlaw12.HistJudges', WHERE WHAT IT READS IS OF BULK AT MOST 1048576: true; the input reads as it did. -/
def histJudgesUptoRow : OpenClaim := { program := "ytnedgfkgmdoahaa", sum := "6ed1a1dddce52713e074f22a99e1f40999511a69e0bf23ace9727dc295d2f1ab", func := "shunt/shuntlaw12.HistJudges", spec := "histJudges", unfollowed := true, recurses := true, apart := false, narrowed := true }
def HistJudgesUptoSaid : Prop := histJudgesUptoRow.holds Try.pinned (OpenSpec.upto histJudgesSpec)

/-- 'shuntlaw12.HistSerial', WHERE WHAT IT READS IS OF BULK AT MOST 1048576: true; the input reads as it did. -/
def histSerialUptoRow : OpenClaim := { program := "ytnedgfkgmdoahaa", sum := "6ed1a1dddce52713e074f22a99e1f40999511a69e0bf23ace9727dc295d2f1ab", func := "shunt/shuntlaw12.HistSerial", spec := "histSerial", unfollowed := true, recurses := true, apart := false, narrowed := true }
def HistSerialUptoSaid : Prop := histSerialUptoRow.holds Try.pinned (OpenSpec.upto histSerialSpec)

/-- 'shuntlaw12.HistParts', WHERE WHAT IT READS IS OF BULK AT MOST 1048576: true; the input reads as it did. -/
def histPartsUptoRow : OpenClaim := { program := "ytnedgfkgmdoahaa", sum := "6ed1a1dddce52713e074f22a99e1f40999511a69e0bf23ace9727dc295d2f1ab", func := "shunt/shuntlaw12.HistParts", spec := "histParts", unfollowed := true, recurses := true, apart := false, narrowed := true }
def HistPartsUptoSaid : Prop := histPartsUptoRow.holds Try.pinned (OpenSpec.upto histPartsSpec)

/-- 'shuntlaw26.ClocksNames', WHERE WHAT IT READS IS OF BULK AT MOST 1048576: true; the input reads as it did. -/
def clocksNamesUptoRow : OpenClaim := { program := "ytnedgfkgmdoahaa", sum := "6ed1a1dddce52713e074f22a99e1f40999511a69e0bf23ace9727dc295d2f1ab", func := "shunt/shuntlaw26.ClocksNames", spec := "clocksNames", unfollowed := true, recurses := true, apart := false, narrowed := true }
def ClocksNamesUptoSaid : Prop := clocksNamesUptoRow.holds Try.pinned (OpenSpec.upto clocksNamesSpec)

/-- 'shuntlaw12.HistNames', WHERE WHAT IT READS IS OF BULK AT MOST 1048576: true; the input reads as it did. -/
def histNamesUptoRow : OpenClaim := { program := "ytnedgfkgmdoahaa", sum := "6ed1a1dddce52713e074f22a99e1f40999511a69e0bf23ace9727dc295d2f1ab", func := "shunt/shuntlaw12.HistNames", spec := "histNames", unfollowed := true, recurses := true, apart := false, narrowed := true }
def HistNamesUptoSaid : Prop := histNamesUptoRow.holds Try.pinned (OpenSpec.upto histNamesSpec)

end Rows
end Go.Proofs.Ytnedgfkgmdoahaa
