/- The plain law of histories (5): the two ways to tell which plain event races first are one. -/
import Derived.Test.YtnedgfkgmdoahaaHsX9
set_option linter.unusedSimpArgs false
set_option linter.unusedVariables false
set_option linter.unnecessarySimpa false
namespace Go.Proofs.Ytnedgfkgmdoahaa
open Go Go.Hs
end Go.Proofs.Ytnedgfkgmdoahaa
