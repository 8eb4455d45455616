/- shuntlaw12.HistParts: the walk. -/
import Derived.Test.YtnedgfkgmdoahaaHsP1
import Derived.Test.YtnedgfkgmdoahaaHsX6
import Derived.Test.YtnedgfkgmdoahaaHsCodeS
set_option linter.unusedSimpArgs false
set_option linter.unusedVariables false
set_option linter.unnecessarySimpa false
namespace Go.Proofs.Ytnedgfkgmdoahaa
open Go Go.Sx Go.Hs
set_option maxRecDepth 100000
end Go.Proofs.Ytnedgfkgmdoahaa
