/- The run of this closed statement, walked by the kernel. -/
import Derived.Test.YtfgdmcnlbgbleaaDoorAnMem
set_option linter.unusedSimpArgs false
set_option linter.unusedVariables false
set_option linter.unnecessarySimpa false
namespace Go.Proofs.YtfgdmcnlbgbleaaDoor
open Go Go.Kx
set_option maxRecDepth 100000
theorem saidF : said true (callF kC (run kC 1000000) 3 ([].map .v) ⟨.e, 0⟩) = true := by kernel_rfl
end Go.Proofs.YtfgdmcnlbgbleaaDoor
