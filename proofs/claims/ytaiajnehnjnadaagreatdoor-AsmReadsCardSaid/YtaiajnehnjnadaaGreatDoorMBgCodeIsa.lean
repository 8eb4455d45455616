/- Printed by program: the small code of functions, and that it is theirs. -/
import Derived.Test.YtaiajnehnjnadaaGreatDoorSxStill
import Derived.Test.YtaiajnehnjnadaaGreatDoorProg
import Derived.KernelRfl
set_option linter.unusedSimpArgs false
set_option linter.unusedVariables false
set_option linter.unnecessarySimpa false
namespace Go.Proofs.YtaiajnehnjnadaaGreatDoor
open Go Go.Sx
set_option maxRecDepth 100000
def T33n0:XC:=.seq (.ops [zx 2 (.mov (.const (.bool false)))]) .ret
def T33n1:XC:=.seq (.ops [zm 24 3,zm 25 5,zx 26 (.ixT (.const (.string (ByteArray.mk (Array.mk [UInt8.ofNat 65,UInt8.ofNat 66,UInt8.ofNat 67])))) (.tmp 25)),zc 27 57 [.tmp 24,.tmp 26],zx 28 (.cmp .geq .i64 (.tmp 27) (.const (.int .i64 0))),zm 29 28,zh 30 29 true 6,zg 31 29 true (.cmp .lss .i64 (.tmp 30) (.const (.int .i64 0))),zh 32 29 true 31,zh 33 32 false 6,zg 34 32 false (.cmp .geq .i64 (.tmp 33) (.const (.int .i64 8))),zg 35 29 true (.pick (.tmp 32) (.const (.bool true)) (.tmp 34)),zx 36 (.pick (.tmp 29) (.tmp 35) (.const (.bool false)))]) (.cond (.tmp 36) (.ref 0) .skip)
def T33n2:XC:=.seq (.blk 1 (.seq (.ops [zm 22 20,zx 23 (.ixA 3 1 false (.tmp 19) (.tmp 20)),zm 5 22,zm 6 23]) (.ref 1))) (.ops [zp 37 20,zm 20 37])
def T33n3:XC:=.seq (.cond (.tmp 21) .skip (.exit 0)) (.ref 2)
def T33n4:XC:=.seq (.ops [zx 21 (.cmp .lss .i64 (.tmp 20) (.const (.int .i64 3)))]) (.ref 3)
def T33n5:XC:=.seq (.ops [zm 38 4,zm 2 38]) .ret
def T33n6:XC:=.seq (.seq (.ops [zf 13 1 1,zl 14 13,zf 15 2 1,zl 16 15,zf 17 3 1,zl 18 17,zx 19 (.build [.int .i64 0,.int .i64 0,.int .i64 0] [(0,1,.tmp 14),(1,1,.tmp 16),(2,1,.tmp 18)]),zx 20 (.mov (.const (.int .i64 0)))]) (.blk 0 (.loop (.ref 4)))) (.ref 5)
def T33n7:XC:=.seq (.ops [zf 8 0 1,zl 9 8,zc 10 56 [.tmp 9],zm 7 10,zy 11 7 0,zy 12 7 1,zm 3 11,zm 4 12]) (.ref 6)
def T33:Nat→XC
 | 0=>T33n0
 | 1=>T33n1
 | 2=>T33n2
 | 3=>T33n3
 | 4=>T33n4
 | 5=>T33n5
 | 6=>T33n6
 | 7=>T33n7
 | _=>.skip
theorem t33n0:T33 0=T33n0:=rfl
theorem t33n1:T33 1=T33n1:=rfl
theorem t33n2:T33 2=T33n2:=rfl
theorem t33n3:T33 3=T33n3:=rfl
theorem t33n4:T33 4=T33n4:=rfl
theorem t33n5:T33 5=T33n5:=rfl
theorem t33n6:T33 6=T33n6:=rfl
theorem t33n7:T33 7=T33n7:=rfl
def X33:XC:=.seq (.ops [zx 1 (.box 43 5 (.tmp 0)),zx 2 (.mov (.const (.bool false)))]) (.ref 7)
abbrev K33:List Nat:=[0,1,2,3,4,5,6,19,20,21,36]
theorem n33:Tryz.f33.ntmps=39:=by kernel_rfl
theorem r33:resT Tryz.f33.results.toList=some [2]:=by kernel_rfl
theorem x33:cmpF Tryz.prog Tryz.f33=some (expand T33 9 X33):=by kernel_rfl
def T56n0:XC:=.seq (.ops [zx 2 (.mov (.const (.string (ByteArray.mk (Array.mk []))))),zx 3 (.mov (.const (.bool false)))]) .ret
def T56n1:XC:=.seq (.ops [zm 10 0,zx 11 (.idxA 19 2 (.global 0) (.tmp 10)),zf 12 1 11,zx 13 (.load [.str] false (.tmp 12)),zm 2 13,zx 3 (.mov (.const (.bool true)))]) .ret
def T56n2:XC:=.seq (.seq (.ops [zm 4 0,zx 5 (.cmp .lss .i64 (.tmp 4) (.const (.int .i64 1))),zm 6 5,zh 7 6 false 0,zg 8 6 false (.cmp .geq .i64 (.tmp 7) (.const (.int .i64 19))),zx 9 (.pick (.tmp 6) (.const (.bool true)) (.tmp 8))]) (.cond (.tmp 9) (.ref 0) .skip)) (.ref 1)
def T56:Nat→XC
 | 0=>T56n0
 | 1=>T56n1
 | 2=>T56n2
 | _=>.skip
theorem t56n0:T56 0=T56n0:=rfl
theorem t56n1:T56 1=T56n1:=rfl
theorem t56n2:T56 2=T56n2:=rfl
def X56:XC:=.seq (.ops [zx 2 (.mov (.const (.string (ByteArray.mk (Array.mk []))))),zx 3 (.mov (.const (.bool false)))]) (.ref 2)
abbrev K56:List Nat:=[0,2,3,9]
theorem n56:Tryz.f56.ntmps=14:=by kernel_rfl
theorem r56:resT Tryz.f56.results.toList=some [2,3]:=by kernel_rfl
theorem x56:cmpF Tryz.prog Tryz.f56=some (expand T56 4 X56):=by kernel_rfl
def T57n0:XC:=.seq (.ops [zm 5 0,zm 6 1,zc 7 72 [.tmp 5,.tmp 6],zm 4 7]) .ret
def T57:Nat→XC
 | 0=>T57n0
 | _=>.skip
theorem t57n0:T57 0=T57n0:=rfl
def X57:XC:=.seq (.ops [zx 4 (.mov (.const (.int .i64 0)))]) (.ref 0)
abbrev K57:List Nat:=[0,1,4]
theorem n57:Tryz.f57.ntmps=8:=by kernel_rfl
theorem r57:resT Tryz.f57.results.toList=some [4]:=by kernel_rfl
theorem x57:cmpF Tryz.prog Tryz.f57=some (expand T57 2 X57):=by kernel_rfl
def T72n0:XC:=.seq (.ops [zm 5 0,zm 6 1,zx 7 (.lib 0 [.tmp 5,.tmp 6]),zm 4 7]) .ret
def T72:Nat→XC
 | 0=>T72n0
 | _=>.skip
theorem t72n0:T72 0=T72n0:=rfl
def X72:XC:=.seq (.ops [zx 4 (.mov (.const (.int .i64 0)))]) (.ref 0)
abbrev K72:List Nat:=[0,1,4]
theorem n72:Tryz.f72.ntmps=8:=by kernel_rfl
theorem r72:resT Tryz.f72.results.toList=some [4]:=by kernel_rfl
theorem x72:cmpF Tryz.prog Tryz.f72=some (expand T72 2 X72):=by kernel_rfl
def T40n0:XC:=.seq (.ops [zm 3 0,zx 4 (.cmp .geq .i64 (.tmp 3) (.const (.int .i64 0))),zm 5 4,zh 6 5 true 0,zg 7 5 true (.cmp .lss .i64 (.tmp 6) (.const (.int .i64 8))),zx 8 (.pick (.tmp 5) (.tmp 7) (.const (.bool false))),zm 2 8]) .ret
def T40:Nat→XC
 | 0=>T40n0
 | _=>.skip
theorem t40n0:T40 0=T40n0:=rfl
def X40:XC:=.seq (.ops [zx 2 (.mov (.const (.bool false)))]) (.ref 0)
abbrev K40:List Nat:=[0,2]
theorem n40:Tryz.f40.ntmps=9:=by kernel_rfl
theorem r40:resT Tryz.f40.results.toList=some [2]:=by kernel_rfl
theorem x40:cmpF Tryz.prog Tryz.f40=some (expand T40 2 X40):=by kernel_rfl
attribute [go_sem] t33n0 t33n1 t33n2 t33n3 t33n4 t33n5 t33n6 t33n7 T33n0 T33n1 T33n2 T33n3 T33n4 T33n5 T33n6 T33n7 X33
attribute [go_sem] t56n0 t56n1 t56n2 T56n0 T56n1 T56n2 X56
attribute [go_sem] t57n0 T57n0 X57
attribute [go_sem] t72n0 T72n0 X72
attribute [go_sem] t40n0 T40n0 X40
end Go.Proofs.YtaiajnehnjnadaaGreatDoor
