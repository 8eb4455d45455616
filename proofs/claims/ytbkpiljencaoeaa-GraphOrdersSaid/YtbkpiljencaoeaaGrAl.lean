/- The chapter's first two examples. -/
import Derived.Test.YtbkpiljencaoeaaGrO1
import Derived.Test.YtbkpiljencaoeaaGrPlain
import Derived.Test.YtbkpiljencaoeaaGrCode
set_option linter.unusedSimpArgs false
set_option linter.unusedVariables false
set_option linter.unnecessarySimpa false
namespace Go.Proofs.Ytbkpiljencaoeaa
open Go Go.Sx Go.Gr
set_option maxRecDepth 100000
end Go.Proofs.Ytbkpiljencaoeaa
