/- The document's Same. -/
import Derived.Test.YtgghmmjoplddbaaDoorDBgIsa3
import Derived.Test.YtgghmmjoplddbaaDoorDBgCodeThr
set_option linter.unusedSimpArgs false
set_option linter.unusedVariables false
set_option linter.unnecessarySimpa false
namespace Go.Proofs.YtgghmmjoplddbaaDoor
open Go Go.Sx Go.Isa
set_option maxRecDepth 100000
end Go.Proofs.YtgghmmjoplddbaaDoor
