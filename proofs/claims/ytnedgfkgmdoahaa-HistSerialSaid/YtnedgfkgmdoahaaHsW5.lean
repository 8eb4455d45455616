/- hist.Split: a history's attempts, as they are told. -/
import Derived.Test.YtnedgfkgmdoahaaHsW4
import Derived.Test.YtnedgfkgmdoahaaHsCodeO
set_option linter.unusedSimpArgs false
set_option linter.unusedVariables false
set_option linter.unnecessarySimpa false
namespace Go.Proofs.Ytnedgfkgmdoahaa
open Go Go.Sx Go.Hs
set_option maxRecDepth 100000
end Go.Proofs.Ytnedgfkgmdoahaa
