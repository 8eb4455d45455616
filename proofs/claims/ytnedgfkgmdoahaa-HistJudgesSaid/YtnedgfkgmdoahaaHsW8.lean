/- shuntref26.Of, Same. -/
import Derived.Test.YtnedgfkgmdoahaaHsW7
import Derived.Test.YtnedgfkgmdoahaaHsCodeO
set_option linter.unusedSimpArgs false
set_option linter.unusedVariables false
set_option linter.unnecessarySimpa false
namespace Go.Proofs.Ytnedgfkgmdoahaa
open Go Go.Sx Go.Hs Go.Clk
set_option maxRecDepth 100000
end Go.Proofs.Ytnedgfkgmdoahaa
