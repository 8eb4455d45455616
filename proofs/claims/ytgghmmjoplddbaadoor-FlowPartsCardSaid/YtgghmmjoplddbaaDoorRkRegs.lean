/- Rows: an argument that is eight registers; a number's bounds. -/
import Derived.Test.YtgghmmjoplddbaaDoorDkFlat
import Derived.Test.YtgghmmjoplddbaaDoorIsaSpec
set_option linter.unusedSimpArgs false
set_option linter.unusedVariables false
set_option linter.unnecessarySimpa false
namespace Go.Dk
open Go Go.ChangeShapes Go.WideShapes Go.ChangeAt Go.RowKit Go.Deep Go.Sx Go.Isa
theorem wfI {n : Int} (h : (Lit.int .i64 n).wf = true) : is64 n := by
 simp [Lit.wf, IntKind.min, IntKind.max, IntKind.signed, IntKind.bits] at h
 unfold is64; omega
end Go.Dk
