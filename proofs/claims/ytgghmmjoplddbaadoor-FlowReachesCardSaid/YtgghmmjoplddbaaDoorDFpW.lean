/- FlowParts: the statement, walked. -/
import Derived.Test.YtgghmmjoplddbaaDoorFlSteps
import Derived.Test.YtgghmmjoplddbaaDoorDFlWr
import Derived.Test.YtgghmmjoplddbaaDoorDRpW1
import Derived.Test.YtgghmmjoplddbaaDoorDFlSame
import Derived.Test.YtgghmmjoplddbaaDoorSxGhost
import Derived.Test.YtgghmmjoplddbaaDoorDFlCodeP
set_option linter.unusedSimpArgs false
set_option linter.unusedVariables false
set_option linter.unnecessarySimpa false
namespace Go.Proofs.YtgghmmjoplddbaaDoor
open Go Go.Sx Go.Isa
set_option maxRecDepth 100000
end Go.Proofs.YtgghmmjoplddbaaDoor
