/- shuntref12.touches, Races, Tally. -/
import Derived.Test.YtnedgfkgmdoahaaHsX4
import Derived.Test.YtnedgfkgmdoahaaHsCodeT
set_option linter.unusedSimpArgs false
set_option linter.unusedVariables false
set_option linter.unnecessarySimpa false
namespace Go.Proofs.Ytnedgfkgmdoahaa
open Go Go.Sx Go.Hs
set_option maxRecDepth 100000
end Go.Proofs.Ytnedgfkgmdoahaa
