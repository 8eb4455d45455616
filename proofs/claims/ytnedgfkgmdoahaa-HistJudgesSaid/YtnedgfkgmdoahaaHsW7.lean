/- clocks.Of, shuntref26.Of: a history's operations. -/
import Derived.Test.YtnedgfkgmdoahaaHsW5
import Derived.Test.YtnedgfkgmdoahaaHsW6
import Derived.Test.YtnedgfkgmdoahaaHsPlain
import Derived.Test.YtnedgfkgmdoahaaHsSpec
import Derived.Test.YtnedgfkgmdoahaaHsCodeO
set_option linter.unusedSimpArgs false
set_option linter.unusedVariables false
set_option linter.unnecessarySimpa false
namespace Go.Proofs.Ytnedgfkgmdoahaa
open Go Go.Sx Go.Hs Go.Clk
set_option maxRecDepth 100000
end Go.Proofs.Ytnedgfkgmdoahaa
