/- Printed by program: the small code of functions, and that it is theirs. -/
import Derived.Test.YtaiajnehnjnadaaDoorSxStill
import Derived.Test.YtaiajnehnjnadaaDoorProg
import Derived.KernelRfl
set_option linter.unusedSimpArgs false
set_option linter.unusedVariables false
set_option linter.unnecessarySimpa false
namespace Go.Proofs.YtaiajnehnjnadaaDoor
open Go Go.Sx
set_option maxRecDepth 100000
def T6n0:XC:=.seq (.ops [zm 21 3,zm 22 21,zh 23 22 true 0,zg 24 22 true (.lenS (.tmp 23)),zg 25 22 true (.cmp .gtr .i64 (.tmp 24) (.const (.int .i64 1024))),zx 26 (.pick (.tmp 22) (.tmp 25) (.const (.bool false))),zm 2 26]) .ret
def T6n1:XC:=.seq (.ops [zm 33 3,zm 34 33,zh 35 34 true 8,zg 36 34 true (.cmp .eql .i64 (.tmp 35) (.const (.int .i64 0))),zx 37 (.pick (.tmp 34) (.tmp 36) (.const (.bool false))),zm 38 37,zh 39 38 true 7,zg 40 38 true (.cmp .eql .i64 (.tmp 39) (.const (.int .i64 0))),zx 41 (.pick (.tmp 38) (.tmp 40) (.const (.bool false))),zm 42 41,zh 43 42 true 0,zh 44 42 true 6,.mk (some 45) (some (42,true)) (.call 9 [.tmp 43,.tmp 44]),zx 46 (.pick (.tmp 42) (.tmp 45) (.const (.bool false))),zm 2 46]) .ret
def T6n2:XC:=.seq (.ops [zm 28 4,zc 29 11 [.tmp 28],zm 27 29,zy 30 27 0,zy 31 27 1,zy 32 27 2,zm 6 30,zm 7 31,zm 8 32]) (.ref 1)
def T6n3:XC:=.seq (.seq (.ops [zm 15 5,zx 16 (.cmp .neq .i64 (.tmp 15) (.const (.int .i64 0))),zm 17 16,zh 18 17 false 3,zg 19 17 false (.not (.tmp 18)),zx 20 (.pick (.tmp 17) (.const (.bool true)) (.tmp 19))]) (.cond (.tmp 20) (.ref 0) .skip)) (.ref 2)
def T6n4:XC:=.seq (.ops [zm 11 0,zc 12 7 [.tmp 11],zm 10 12,zy 13 10 0,zy 14 10 1,zm 4 13,zm 5 14]) (.ref 3)
def T6n5:XC:=.seq (.ops [zc 9 10 [],zm 3 9]) (.ref 4)
def T6:Nat→XC
 | 0=>T6n0
 | 1=>T6n1
 | 2=>T6n2
 | 3=>T6n3
 | 4=>T6n4
 | 5=>T6n5
 | _=>.skip
theorem t6n0:T6 0=T6n0:=rfl
theorem t6n1:T6 1=T6n1:=rfl
theorem t6n2:T6 2=T6n2:=rfl
theorem t6n3:T6 3=T6n3:=rfl
theorem t6n4:T6 4=T6n4:=rfl
theorem t6n5:T6 5=T6n5:=rfl
def X6:XC:=.seq (.ops [zx 2 (.mov (.const (.bool false)))]) (.ref 5)
abbrev K6:List Nat:=[0,2,3,4,5,6,7,8,20]
theorem n6:Tryd.f6.ntmps=47:=by kernel_rfl
theorem r6:resT Tryd.f6.results.toList=some [2]:=by kernel_rfl
theorem x6:cmpF Tryd.prog Tryd.f6=some (expand T6 7 X6):=by kernel_rfl
attribute [go_sem] t6n0 t6n1 t6n2 t6n3 t6n4 t6n5 T6n0 T6n1 T6n2 T6n3 T6n4 T6n5 X6
end Go.Proofs.YtaiajnehnjnadaaDoor
