/- What the rows over histories share. -/
import Derived.Test.YtnedgfkgmdoahaaRows
import Derived.Test.YtnedgfkgmdoahaaDkFlat
import Derived.Test.YtnedgfkgmdoahaaHsSpec
set_option linter.unusedSimpArgs false
set_option linter.unusedVariables false
set_option linter.unnecessarySimpa false
namespace Go.Proofs.Ytnedgfkgmdoahaa
open Go Go.ChangeShapes Go.WideShapes Go.ChangeAt Go.RowKit Go.Sx Go.Hs Go.Dk
set_option maxRecDepth 100000
theorem Try.ownH : ownKnob Try.prog.godebug = none := by kernel_rfl
theorem Try.laidOutH : laidOutB Try.prog = true := by kernel_rfl
end Go.Proofs.Ytnedgfkgmdoahaa
