/- Printed by program: the small code of functions, and that it is theirs. -/
import Derived.Test.YtaiajnehnjnadaaDoorSxStill
import Derived.Test.YtaiajnehnjnadaaDoorProg
import Derived.KernelRfl
set_option linter.unusedSimpArgs false
set_option linter.unusedVariables false
set_option linter.unnecessarySimpa false
namespace Go.Proofs.YtaiajnehnjnadaaDoor
open Go Go.Sx
set_option maxRecDepth 100000
def T9n0:XC:=.seq (.ops [zx 4 (.mov (.const (.bool false)))]) .ret
def T9n1:XC:=.seq (.ops [zx 4 (.mov (.const (.bool false)))]) .ret
def T9n2:XC:=.ops [zm 15 5,zp 16 15,zm 5 16]
def T9n3:XC:=.seq (.blk 1 (.seq (.ops [zm 17 0,zm 18 5,zd 19 5 17 18,zi 20 19,zm 21 1,zm 22 5,zd 23 5 21 22,zi 24 23,zx 25 (.eqa true [.int .i64,.int .i64,.int .i64,.int .i64,.int .i64] (.tmp 20) (.tmp 24))]) (.cond (.tmp 25) (.ref 1) .skip))) (.ref 2)
def T9n4:XC:=.seq (.seq (.ops [zm 11 5,zm 12 0,ze 13 12,zk 14 .lss 11 13]) (.cond (.tmp 14) .skip (.exit 0))) (.ref 3)
def T9n5:XC:=.seq (.ops [zx 4 (.mov (.const (.bool true)))]) .ret
def T9n6:XC:=.seq (.seq (.ops [zx 5 (.mov (.const (.int .i64 0)))]) (.blk 0 (.loop (.ref 4)))) (.ref 5)
def T9n7:XC:=.seq (.seq (.ops [zm 6 0,ze 7 6,zm 8 1,ze 9 8,zk 10 .neq 7 9]) (.cond (.tmp 10) (.ref 0) .skip)) (.ref 6)
def T9:Nat→XC
 | 0=>T9n0
 | 1=>T9n1
 | 2=>T9n2
 | 3=>T9n3
 | 4=>T9n4
 | 5=>T9n5
 | 6=>T9n6
 | 7=>T9n7
 | _=>.skip
theorem t9n0:T9 0=T9n0:=rfl
theorem t9n1:T9 1=T9n1:=rfl
theorem t9n2:T9 2=T9n2:=rfl
theorem t9n3:T9 3=T9n3:=rfl
theorem t9n4:T9 4=T9n4:=rfl
theorem t9n5:T9 5=T9n5:=rfl
theorem t9n6:T9 6=T9n6:=rfl
theorem t9n7:T9 7=T9n7:=rfl
def X9:XC:=.seq (.ops [zx 4 (.mov (.const (.bool false)))]) (.ref 7)
abbrev K9:List Nat:=[0,1,4,5,10,14,25]
theorem n9:Tryd.f9.ntmps=26:=by kernel_rfl
theorem r9:resT Tryd.f9.results.toList=some [4]:=by kernel_rfl
theorem x9:cmpF Tryd.prog Tryd.f9=some (expand T9 9 X9):=by kernel_rfl
attribute [go_sem] t9n0 t9n1 t9n2 t9n3 t9n4 t9n5 t9n6 t9n7 T9n0 T9n1 T9n2 T9n3 T9n4 T9n5 T9n6 T9n7 X9
end Go.Proofs.YtaiajnehnjnadaaDoor
