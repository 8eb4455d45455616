/- hist.Races. -/
import Derived.Test.YtnedgfkgmdoahaaHsX7
import Derived.Test.YtnedgfkgmdoahaaHsW5
import Derived.Test.YtnedgfkgmdoahaaHsCodeT
set_option linter.unusedSimpArgs false
set_option linter.unusedVariables false
set_option linter.unnecessarySimpa false
namespace Go.Proofs.Ytnedgfkgmdoahaa
open Go Go.Sx Go.Hs
set_option maxRecDepth 100000
end Go.Proofs.Ytnedgfkgmdoahaa
