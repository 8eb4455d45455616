/- Printed by program: the small code of functions, and that it is theirs. -/
import Derived.Test.YtaiajnehnjnadaaDoorSxStill
import Derived.Test.YtaiajnehnjnadaaDoorProg
import Derived.KernelRfl
set_option linter.unusedSimpArgs false
set_option linter.unusedVariables false
set_option linter.unnecessarySimpa false
namespace Go.Proofs.YtaiajnehnjnadaaDoor
open Go Go.Sx
set_option maxRecDepth 100000
def T26n0:XC:=.seq (.ops [zx 2 (.mov (.const (.bool false)))]) .ret
def T26n1:XC:=.seq (.ops [zm 24 3,zm 25 5,zx 26 (.ixT (.const (.string (ByteArray.mk (Array.mk [UInt8.ofNat 65,UInt8.ofNat 66,UInt8.ofNat 67])))) (.tmp 25)),zc 27 42 [.tmp 24,.tmp 26],zx 28 (.cmp .geq .i64 (.tmp 27) (.const (.int .i64 0))),zm 29 28,zh 30 29 true 6,zg 31 29 true (.cmp .lss .i64 (.tmp 30) (.const (.int .i64 0))),zh 32 29 true 31,zh 33 32 false 6,zg 34 32 false (.cmp .geq .i64 (.tmp 33) (.const (.int .i64 8))),zg 35 29 true (.pick (.tmp 32) (.const (.bool true)) (.tmp 34)),zx 36 (.pick (.tmp 29) (.tmp 35) (.const (.bool false)))]) (.cond (.tmp 36) (.ref 0) .skip)
def T26n2:XC:=.seq (.blk 1 (.seq (.ops [zm 22 20,zx 23 (.ixA 3 1 false (.tmp 19) (.tmp 20)),zm 5 22,zm 6 23]) (.ref 1))) (.ops [zp 37 20,zm 20 37])
def T26n3:XC:=.seq (.cond (.tmp 21) .skip (.exit 0)) (.ref 2)
def T26n4:XC:=.seq (.ops [zx 21 (.cmp .lss .i64 (.tmp 20) (.const (.int .i64 3)))]) (.ref 3)
def T26n5:XC:=.seq (.ops [zm 38 4,zm 2 38]) .ret
def T26n6:XC:=.seq (.seq (.ops [zf 13 1 1,zl 14 13,zf 15 2 1,zl 16 15,zf 17 3 1,zl 18 17,zx 19 (.build [.int .i64 0,.int .i64 0,.int .i64 0] [(0,1,.tmp 14),(1,1,.tmp 16),(2,1,.tmp 18)]),zx 20 (.mov (.const (.int .i64 0)))]) (.blk 0 (.loop (.ref 4)))) (.ref 5)
def T26n7:XC:=.seq (.ops [zf 8 0 1,zl 9 8,zc 10 41 [.tmp 9],zm 7 10,zy 11 7 0,zy 12 7 1,zm 3 11,zm 4 12]) (.ref 6)
def T26:Nat→XC
 | 0=>T26n0
 | 1=>T26n1
 | 2=>T26n2
 | 3=>T26n3
 | 4=>T26n4
 | 5=>T26n5
 | 6=>T26n6
 | 7=>T26n7
 | _=>.skip
theorem t26n0:T26 0=T26n0:=rfl
theorem t26n1:T26 1=T26n1:=rfl
theorem t26n2:T26 2=T26n2:=rfl
theorem t26n3:T26 3=T26n3:=rfl
theorem t26n4:T26 4=T26n4:=rfl
theorem t26n5:T26 5=T26n5:=rfl
theorem t26n6:T26 6=T26n6:=rfl
theorem t26n7:T26 7=T26n7:=rfl
def X26:XC:=.seq (.ops [zx 1 (.box 43 5 (.tmp 0)),zx 2 (.mov (.const (.bool false)))]) (.ref 7)
abbrev K26:List Nat:=[0,1,2,3,4,5,6,19,20,21,36]
theorem n26:Tryd.f26.ntmps=39:=by kernel_rfl
theorem r26:resT Tryd.f26.results.toList=some [2]:=by kernel_rfl
theorem x26:cmpF Tryd.prog Tryd.f26=some (expand T26 9 X26):=by kernel_rfl
def T41n0:XC:=.seq (.ops [zx 2 (.mov (.const (.string (ByteArray.mk (Array.mk []))))),zx 3 (.mov (.const (.bool false)))]) .ret
def T41n1:XC:=.seq (.ops [zm 10 0,zx 11 (.idxA 19 2 (.global 0) (.tmp 10)),zf 12 1 11,zx 13 (.load [.str] false (.tmp 12)),zm 2 13,zx 3 (.mov (.const (.bool true)))]) .ret
def T41n2:XC:=.seq (.seq (.ops [zm 4 0,zx 5 (.cmp .lss .i64 (.tmp 4) (.const (.int .i64 1))),zm 6 5,zh 7 6 false 0,zg 8 6 false (.cmp .geq .i64 (.tmp 7) (.const (.int .i64 19))),zx 9 (.pick (.tmp 6) (.const (.bool true)) (.tmp 8))]) (.cond (.tmp 9) (.ref 0) .skip)) (.ref 1)
def T41:Nat→XC
 | 0=>T41n0
 | 1=>T41n1
 | 2=>T41n2
 | _=>.skip
theorem t41n0:T41 0=T41n0:=rfl
theorem t41n1:T41 1=T41n1:=rfl
theorem t41n2:T41 2=T41n2:=rfl
def X41:XC:=.seq (.ops [zx 2 (.mov (.const (.string (ByteArray.mk (Array.mk []))))),zx 3 (.mov (.const (.bool false)))]) (.ref 2)
abbrev K41:List Nat:=[0,2,3,9]
theorem n41:Tryd.f41.ntmps=14:=by kernel_rfl
theorem r41:resT Tryd.f41.results.toList=some [2,3]:=by kernel_rfl
theorem x41:cmpF Tryd.prog Tryd.f41=some (expand T41 4 X41):=by kernel_rfl
def T42n0:XC:=.seq (.ops [zm 5 0,zm 6 1,zc 7 54 [.tmp 5,.tmp 6],zm 4 7]) .ret
def T42:Nat→XC
 | 0=>T42n0
 | _=>.skip
theorem t42n0:T42 0=T42n0:=rfl
def X42:XC:=.seq (.ops [zx 4 (.mov (.const (.int .i64 0)))]) (.ref 0)
abbrev K42:List Nat:=[0,1,4]
theorem n42:Tryd.f42.ntmps=8:=by kernel_rfl
theorem r42:resT Tryd.f42.results.toList=some [4]:=by kernel_rfl
theorem x42:cmpF Tryd.prog Tryd.f42=some (expand T42 2 X42):=by kernel_rfl
def T54n0:XC:=.seq (.ops [zm 5 0,zm 6 1,zx 7 (.lib 0 [.tmp 5,.tmp 6]),zm 4 7]) .ret
def T54:Nat→XC
 | 0=>T54n0
 | _=>.skip
theorem t54n0:T54 0=T54n0:=rfl
def X54:XC:=.seq (.ops [zx 4 (.mov (.const (.int .i64 0)))]) (.ref 0)
abbrev K54:List Nat:=[0,1,4]
theorem n54:Tryd.f54.ntmps=8:=by kernel_rfl
theorem r54:resT Tryd.f54.results.toList=some [4]:=by kernel_rfl
theorem x54:cmpF Tryd.prog Tryd.f54=some (expand T54 2 X54):=by kernel_rfl
attribute [go_sem] t26n0 t26n1 t26n2 t26n3 t26n4 t26n5 t26n6 t26n7 T26n0 T26n1 T26n2 T26n3 T26n4 T26n5 T26n6 T26n7 X26
attribute [go_sem] t41n0 t41n1 t41n2 T41n0 T41n1 T41n2 X41
attribute [go_sem] t42n0 T42n0 X42
attribute [go_sem] t54n0 T54n0 X54
end Go.Proofs.YtaiajnehnjnadaaDoor
