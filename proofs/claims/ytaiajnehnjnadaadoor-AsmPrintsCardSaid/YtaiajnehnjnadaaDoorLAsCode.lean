/- Printed by program: the small code of functions, and that it is theirs. -/
import Derived.Test.YtaiajnehnjnadaaDoorSxStill
import Derived.Test.YtaiajnehnjnadaaDoorProg
import Derived.KernelRfl
set_option linter.unusedSimpArgs false
set_option linter.unusedVariables false
set_option linter.unnecessarySimpa false
namespace Go.Proofs.YtaiajnehnjnadaaDoor
open Go Go.Sx
set_option maxRecDepth 100000
def T25n0:XC:=.seq (.ops [zm 3 0,zx 4 (.cmp .eql .i64 (.tmp 3) (.const (.int .i64 13))),zm 5 4,zh 6 5 false 0,zg 7 5 false (.cmp .eql .i64 (.tmp 6) (.const (.int .i64 14))),zx 8 (.pick (.tmp 5) (.const (.bool true)) (.tmp 7)),zm 9 8,zh 10 9 false 0,zg 11 9 false (.cmp .eql .i64 (.tmp 10) (.const (.int .i64 15))),zx 12 (.pick (.tmp 9) (.const (.bool true)) (.tmp 11)),zm 13 12,zh 14 13 false 0,zg 15 13 false (.cmp .eql .i64 (.tmp 14) (.const (.int .i64 16))),zx 16 (.pick (.tmp 13) (.const (.bool true)) (.tmp 15)),zm 2 16]) .ret
def T25:Nat→XC
 | 0=>T25n0
 | _=>.skip
theorem t25n0:T25 0=T25n0:=rfl
def X25:XC:=.seq (.ops [zx 2 (.mov (.const (.bool false)))]) (.ref 0)
abbrev K25:List Nat:=[0,2]
theorem n25:Tryd.f25.ntmps=17:=by kernel_rfl
theorem r25:resT Tryd.f25.results.toList=some [2]:=by kernel_rfl
theorem x25:cmpF Tryd.prog Tryd.f25=some (expand T25 2 X25):=by kernel_rfl
attribute [go_sem] t25n0 T25n0 X25
end Go.Proofs.YtaiajnehnjnadaaDoor
