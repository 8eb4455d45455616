/- What the rows over graphs share. -/
import Derived.Test.YtbkpiljencaoeaaRows
import Derived.Test.YtbkpiljencaoeaaDkFlat
import Derived.Test.YtbkpiljencaoeaaGrM0
set_option linter.unusedSimpArgs false
set_option linter.unusedVariables false
set_option linter.unnecessarySimpa false
namespace Go.Proofs.Ytbkpiljencaoeaa
open Go Go.ChangeShapes Go.WideShapes Go.ChangeAt Go.RowKit Go.Sx Go.Gr Go.Dk
set_option maxRecDepth 100000
theorem Try.ownH : ownKnob Try.prog.godebug = none := by kernel_rfl
end Go.Proofs.Ytbkpiljencaoeaa
