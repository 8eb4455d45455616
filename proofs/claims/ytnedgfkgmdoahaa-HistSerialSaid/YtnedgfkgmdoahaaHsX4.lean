/- shuntref12.Pairs, Same, Events: of what is the same. -/
import Derived.Test.YtnedgfkgmdoahaaHsX3
import Derived.Test.YtnedgfkgmdoahaaHsCodeT
set_option linter.unusedSimpArgs false
set_option linter.unusedVariables false
set_option linter.unnecessarySimpa false
namespace Go.Proofs.Ytnedgfkgmdoahaa
open Go Go.Sx Go.Hs
set_option maxRecDepth 100000
structure AtsAt (w : World) (A : Option Addr) (z : List (At × Hd)) : Prop where
 row : RowAt w A (cellsTs z)
 prs : AttAt w z
theorem AtsAt.keep {w w' : World} {A : Option Addr} {z : List (At × Hd)} (h : AtsAt w A z) (k : Fresh w w') : AtsAt w' A z := ⟨h.row.keep k, h.prs.keep k⟩
end Go.Proofs.Ytnedgfkgmdoahaa
