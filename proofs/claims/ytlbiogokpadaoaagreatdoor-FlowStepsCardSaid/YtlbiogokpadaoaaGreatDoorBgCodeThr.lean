/- Printed by program: the small code of functions, and that it is theirs. -/
import Derived.Test.YtlbiogokpadaoaaGreatDoorSxStill
import Derived.Test.YtlbiogokpadaoaaGreatDoorProg
import Derived.KernelRfl
set_option linter.unusedSimpArgs false
set_option linter.unusedVariables false
set_option linter.unnecessarySimpa false
namespace Go.Proofs.YtlbiogokpadaoaaGreatDoor
open Go Go.Sx
set_option maxRecDepth 100000
theorem n4 : Tryz.f4.ntmps = 18 := by kernel_rfl
theorem r4 : resT Tryz.f4.results.toList = some [2] := by kernel_rfl
theorem n15 : Tryz.f15.ntmps = 95 := by kernel_rfl
end Go.Proofs.YtlbiogokpadaoaaGreatDoor
