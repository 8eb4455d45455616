/- Printed by program: the small code of functions, and that it is theirs. -/
import Derived.Test.YtlbiogokpadaoaaGreatDoorSxStill
import Derived.Test.YtlbiogokpadaoaaGreatDoorProg
import Derived.KernelRfl
set_option linter.unusedSimpArgs false
set_option linter.unusedVariables false
set_option linter.unnecessarySimpa false
namespace Go.Proofs.YtlbiogokpadaoaaGreatDoor
open Go Go.Sx
set_option maxRecDepth 100000
theorem n6:Tryz.f6.ntmps=18:=by kernel_rfl
theorem r6:resT Tryz.f6.results.toList=some [2]:=by kernel_rfl
def T26n0:XC:=.seq (.ops [zm 4 0,zx 5 (.buildS 122 4 1 [.nilFunc] [(0,.func 55),(1,.func 56),(2,.func 57),(3,.func 58)]),zc 6 54 [.tmp 4,.tmp 5],zy 7 6 0,zy 8 6 1,zm 2 7,zm 3 8]) .ret
def T26:Nat→XC
 | 0=>T26n0
 | _=>.skip
theorem t26n0:T26 0=T26n0:=rfl
def X26:XC:=.seq (.ops [zx 2 (.mov (.const (.slice none 0 0))),zx 3 (.mov (.const (.int .i64 0)))]) (.ref 0)
abbrev K26:List Nat:=[0,2,3]
theorem n26:Tryz.f26.ntmps=9:=by kernel_rfl
theorem r26:resT Tryz.f26.results.toList=some [2,3]:=by kernel_rfl
theorem x26:cmpF Tryz.prog Tryz.f26=some (expand T26 2 X26):=by kernel_rfl
def T54n0:XC:=.seq (.ops [zm 26 10,zx 4 (.mov (.const (.slice none 0 0))),zm 5 26]) .ret
def T54n1:XC:=.seq (.seq (.ops [zm 24 10,zx 25 (.cmp .neq .i64 (.tmp 24) (.const (.int .i64 0)))]) (.cond (.tmp 25) (.ref 0) .skip)) (.ops [zm 27 9,zm 0 27])
def T54n2:XC:=.seq (.ops [zm 19 8,zm 20 0,.mk (some 21) none (.callv (.tmp 19) [.tmp 20]),zm 18 21,zy 22 18 0,zy 23 18 1,zm 9 22,zm 10 23]) (.ref 1)
def T54n3:XC:=.seq (.blk 3 (.seq (.ops [zd 16 1 12 14,zx 17 (.load [.fn] false (.tmp 16)),zm 8 17]) (.ref 2))) (.ops [zp 28 14,zm 14 28])
def T54n4:XC:=.seq (.cond (.tmp 15) .skip (.exit 2)) (.ref 3)
def T54n5:XC:=.seq (.ops [zk 15 .lss 14 13]) (.ref 4)
def T54n6:XC:=.seq (.ops [zm 33 0,zc 34 82 [.tmp 33],zm 4 34,zx 5 (.mov (.const (.int .i64 0)))]) .ret
def T54n7:XC:=.seq (.seq (.ops [zm 29 6,zm 30 0,zc 31 81 [.tmp 29,.tmp 30],zx 32 (.not (.tmp 31))]) (.cond (.tmp 32) (.exit 1) .skip)) (.ref 6)
def T54n8:XC:=.seq (.seq (.ops [zm 12 1,ze 13 12,zx 14 (.mov (.const (.int .i64 0)))]) (.blk 2 (.loop (.ref 5)))) (.ref 7)
def T54n9:XC:=.blk 1 (.seq (.ops [zm 11 0,zm 6 11]) (.ref 8))
def T54n10:XC:=.scp (.seq (.lab) (.blk 0 (.loop (.ref 9))))
def T54:Nat→XC
 | 0=>T54n0
 | 1=>T54n1
 | 2=>T54n2
 | 3=>T54n3
 | 4=>T54n4
 | 5=>T54n5
 | 6=>T54n6
 | 7=>T54n7
 | 8=>T54n8
 | 9=>T54n9
 | 10=>T54n10
 | _=>.skip
theorem t54n0:T54 0=T54n0:=rfl
theorem t54n1:T54 1=T54n1:=rfl
theorem t54n2:T54 2=T54n2:=rfl
theorem t54n3:T54 3=T54n3:=rfl
theorem t54n4:T54 4=T54n4:=rfl
theorem t54n5:T54 5=T54n5:=rfl
theorem t54n6:T54 6=T54n6:=rfl
theorem t54n7:T54 7=T54n7:=rfl
theorem t54n8:T54 8=T54n8:=rfl
theorem t54n9:T54 9=T54n9:=rfl
theorem t54n10:T54 10=T54n10:=rfl
def X54:XC:=.seq (.ops [zx 4 (.mov (.const (.slice none 0 0))),zx 5 (.mov (.const (.int .i64 0)))]) (.ref 10)
abbrev K54:List Nat:=[0,1,4,5,6,8,9,10,12,13,14,15,25,32]
theorem n54:Tryz.f54.ntmps=35:=by kernel_rfl
theorem r54:resT Tryz.f54.results.toList=some [4,5]:=by kernel_rfl
theorem x54:cmpF Tryz.prog Tryz.f54=some (expand T54 12 X54):=by kernel_rfl
def T81n0:XC:=.seq (.ops [zx 4 (.mov (.const (.bool false)))]) .ret
def T81n1:XC:=.seq (.ops [zx 4 (.mov (.const (.bool false)))]) .ret
def T81n2:XC:=.seq (.ops [zm 16 0,zm 17 5,zd 18 5 16 17,zi 19 18,zm 20 1,zm 21 5,zd 22 5 20 21,zi 23 22,zx 24 (.eqa true [.int .i64,.int .i64,.int .i64,.int .i64,.int .i64] (.tmp 19) (.tmp 23))]) (.cond (.tmp 24) (.ref 1) .skip)
def T81n3:XC:=.seq (.blk 1 (.seq (.ops [zm 15 13,zm 5 15]) (.ref 2))) (.ops [zp 25 13,zm 13 25])
def T81n4:XC:=.seq (.cond (.tmp 14) .skip (.exit 0)) (.ref 3)
def T81n5:XC:=.seq (.ops [zk 14 .lss 13 12]) (.ref 4)
def T81n6:XC:=.seq (.ops [zx 4 (.mov (.const (.bool true)))]) .ret
def T81n7:XC:=.seq (.seq (.ops [zm 11 0,ze 12 11,zx 13 (.mov (.const (.int .i64 0)))]) (.blk 0 (.loop (.ref 5)))) (.ref 6)
def T81n8:XC:=.seq (.seq (.ops [zm 6 0,ze 7 6,zm 8 1,ze 9 8,zk 10 .neq 7 9]) (.cond (.tmp 10) (.ref 0) .skip)) (.ref 7)
def T81:Nat→XC
 | 0=>T81n0
 | 1=>T81n1
 | 2=>T81n2
 | 3=>T81n3
 | 4=>T81n4
 | 5=>T81n5
 | 6=>T81n6
 | 7=>T81n7
 | 8=>T81n8
 | _=>.skip
theorem t81n0:T81 0=T81n0:=rfl
theorem t81n1:T81 1=T81n1:=rfl
theorem t81n2:T81 2=T81n2:=rfl
theorem t81n3:T81 3=T81n3:=rfl
theorem t81n4:T81 4=T81n4:=rfl
theorem t81n5:T81 5=T81n5:=rfl
theorem t81n6:T81 6=T81n6:=rfl
theorem t81n7:T81 7=T81n7:=rfl
theorem t81n8:T81 8=T81n8:=rfl
def X81:XC:=.seq (.ops [zx 4 (.mov (.const (.bool false)))]) (.ref 8)
abbrev K81:List Nat:=[0,1,4,5,10,12,13,14,24]
theorem n81:Tryz.f81.ntmps=26:=by kernel_rfl
theorem r81:resT Tryz.f81.results.toList=some [4]:=by kernel_rfl
theorem x81:cmpF Tryz.prog Tryz.f81=some (expand T81 10 X81):=by kernel_rfl
attribute [go_sem] t26n0 T26n0 X26
attribute [go_sem] t54n0 t54n1 t54n2 t54n3 t54n4 t54n5 t54n6 t54n7 t54n8 t54n9 t54n10 T54n0 T54n1 T54n2 T54n3 T54n4 T54n5 T54n6 T54n7 T54n8 T54n9 T54n10 X54
attribute [go_sem] t81n0 t81n1 t81n2 t81n3 t81n4 t81n5 t81n6 t81n7 t81n8 T81n0 T81n1 T81n2 T81n3 T81n4 T81n5 T81n6 T81n7 T81n8 X81
end Go.Proofs.YtlbiogokpadaoaaGreatDoor
