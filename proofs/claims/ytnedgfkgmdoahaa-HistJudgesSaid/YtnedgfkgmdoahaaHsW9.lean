/- shuntlaw26.ClocksOf: it answers true. -/
import Derived.Test.YtnedgfkgmdoahaaHsW8
import Derived.Test.YtnedgfkgmdoahaaHsCodeO
set_option linter.unusedSimpArgs false
set_option linter.unusedVariables false
set_option linter.unnecessarySimpa false
namespace Go.Proofs.Ytnedgfkgmdoahaa
open Go Go.Sx Go.Hs Go.Clk
set_option maxRecDepth 100000
end Go.Proofs.Ytnedgfkgmdoahaa
