/- Printed by program: the small code of functions, and that it is theirs. -/
import Derived.Test.YtgghmmjoplddbaaGreatDoorSxStill
import Derived.Test.YtgghmmjoplddbaaGreatDoorProg
import Derived.KernelRfl
set_option linter.unusedSimpArgs false
set_option linter.unusedVariables false
set_option linter.unnecessarySimpa false
namespace Go.Proofs.YtgghmmjoplddbaaGreatDoor
open Go Go.Sx
set_option maxRecDepth 100000
def T10n0:XC:=.seq (.ops [zm 3 0,zc 4 28 [.tmp 3,.func 29],zx 5 (.not (.tmp 4)),zm 2 5]) .ret
def T10:Nat→XC
 | 0=>T10n0
 | _=>.skip
theorem t10n0:T10 0=T10n0:=rfl
def X10:XC:=.seq (.ops [zx 2 (.mov (.const (.bool false)))]) (.ref 0)
abbrev K10:List Nat:=[0,2]
theorem n10:Tryz.f10.ntmps=6:=by kernel_rfl
theorem r10:resT Tryz.f10.results.toList=some [2]:=by kernel_rfl
theorem x10:cmpF Tryz.prog Tryz.f10=some (expand T10 2 X10):=by kernel_rfl
def T28n0:XC:=.seq (.ops [zm 5 0,zm 6 1,zc 7 52 [.tmp 5,.tmp 6],zx 8 (.cmp .geq .i64 (.tmp 7) (.const (.int .i64 0))),zm 4 8]) .ret
def T28:Nat→XC
 | 0=>T28n0
 | _=>.skip
theorem t28n0:T28 0=T28n0:=rfl
def X28:XC:=.seq (.ops [zx 4 (.mov (.const (.bool false)))]) (.ref 0)
abbrev K28:List Nat:=[0,1,4]
theorem n28:Tryz.f28.ntmps=9:=by kernel_rfl
theorem r28:resT Tryz.f28.results.toList=some [4]:=by kernel_rfl
theorem x28:cmpF Tryz.prog Tryz.f28=some (expand T28 2 X28):=by kernel_rfl
def T29n0:XC:=.seq (.ops [zf 3 0 1,zl 4 3,zx 5 (.cmp .geq .i64 (.tmp 4) (.const (.int .i64 1))),zm 6 5,zg 7 6 true (.fld 0 (.tmp 1)),zg 8 6 true (.load [.int .i64] false (.tmp 7)),zg 9 6 true (.cmp .leq .i64 (.tmp 8) (.const (.int .i64 6))),zx 10 (.pick (.tmp 6) (.tmp 9) (.const (.bool false))),zm 2 10]) .ret
def T29:Nat→XC
 | 0=>T29n0
 | _=>.skip
theorem t29n0:T29 0=T29n0:=rfl
def X29:XC:=.seq (.ops [zx 1 (.box 33 2 (.tmp 0)),zx 2 (.mov (.const (.bool false)))]) (.ref 0)
abbrev K29:List Nat:=[0,1,2]
theorem n29:Tryz.f29.ntmps=11:=by kernel_rfl
theorem r29:resT Tryz.f29.results.toList=some [2]:=by kernel_rfl
theorem x29:cmpF Tryz.prog Tryz.f29=some (expand T29 2 X29):=by kernel_rfl
def T52n0:XC:=.seq (.ops [zm 17 5,zm 4 17]) .ret
def T52n1:XC:=.seq (.ops [zm 11 1,zm 12 0,zm 13 5,zd 14 2 12 13,zx 15 (.load [.int .i64,.int .i64] true (.tmp 14)),.mk (some 16) none (.callv (.tmp 11) [.tmp 15])]) (.cond (.tmp 16) (.ref 0) .skip)
def T52n2:XC:=.seq (.blk 1 (.seq (.ops [zm 10 8,zm 5 10]) (.ref 1))) (.ops [zp 18 8,zm 8 18])
def T52n3:XC:=.seq (.cond (.tmp 9) .skip (.exit 0)) (.ref 2)
def T52n4:XC:=.seq (.ops [zk 9 .lss 8 7]) (.ref 3)
def T52n5:XC:=.seq (.ops [zx 4 (.mov (.const (.int .i64 (-1))))]) .ret
def T52n6:XC:=.seq (.seq (.ops [zm 6 0,ze 7 6,zx 8 (.mov (.const (.int .i64 0)))]) (.blk 0 (.loop (.ref 4)))) (.ref 5)
def T52:Nat→XC
 | 0=>T52n0
 | 1=>T52n1
 | 2=>T52n2
 | 3=>T52n3
 | 4=>T52n4
 | 5=>T52n5
 | 6=>T52n6
 | _=>.skip
theorem t52n0:T52 0=T52n0:=rfl
theorem t52n1:T52 1=T52n1:=rfl
theorem t52n2:T52 2=T52n2:=rfl
theorem t52n3:T52 3=T52n3:=rfl
theorem t52n4:T52 4=T52n4:=rfl
theorem t52n5:T52 5=T52n5:=rfl
theorem t52n6:T52 6=T52n6:=rfl
def X52:XC:=.seq (.ops [zx 4 (.mov (.const (.int .i64 0)))]) (.ref 6)
abbrev K52:List Nat:=[0,1,4,5,7,8,9,16]
theorem n52:Tryz.f52.ntmps=19:=by kernel_rfl
theorem r52:resT Tryz.f52.results.toList=some [4]:=by kernel_rfl
theorem x52:cmpF Tryz.prog Tryz.f52=some (expand T52 8 X52):=by kernel_rfl
attribute [go_sem] t10n0 T10n0 X10
attribute [go_sem] t28n0 T28n0 X28
attribute [go_sem] t29n0 T29n0 X29
attribute [go_sem] t52n0 t52n1 t52n2 t52n3 t52n4 t52n5 t52n6 T52n0 T52n1 T52n2 T52n3 T52n4 T52n5 T52n6 X52
end Go.Proofs.YtgghmmjoplddbaaGreatDoor
