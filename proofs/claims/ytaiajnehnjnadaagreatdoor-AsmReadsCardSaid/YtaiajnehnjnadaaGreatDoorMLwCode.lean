/- Printed by program: the small code of functions, and that it is theirs. -/
import Derived.Test.YtaiajnehnjnadaaGreatDoorSxStill
import Derived.Test.YtaiajnehnjnadaaGreatDoorProg
import Derived.KernelRfl
set_option linter.unusedSimpArgs false
set_option linter.unusedVariables false
set_option linter.unnecessarySimpa false
namespace Go.Proofs.YtaiajnehnjnadaaGreatDoor
open Go Go.Sx
set_option maxRecDepth 100000
def T3n0:XC:=.seq (.ops [zx 2 (.mov (.const (.bool true)))]) .ret
def T3n1:XC:=.seq (.ops [zx 2 (.mov (.const (.bool false)))]) .ret
def T3n2:XC:=.seq (.ops [zx 2 (.mov (.const (.bool false)))]) .ret
def T3n3:XC:=.ops [zm 71 13,zp 72 71,zm 13 72]
def T3n4:XC:=.seq (.blk 1 (.seq (.ops [zm 73 6,zm 74 13,zd 75 2 73 74,zf 76 0 75,zx 77 (.load [.str] false (.tmp 76)),zm 78 10,zm 79 13,zd 80 2 78 79,zf 81 0 80,zx 82 (.load [.str] false (.tmp 81)),zx 83 (.eqs .neq (.tmp 77) (.tmp 82)),zm 84 83,zh 85 84 false 6,zh 86 84 false 13,zg 87 84 false (.idx 2 (.tmp 85) (.tmp 86)),zg 88 84 false (.fld 1 (.tmp 87)),zg 89 84 false (.load [.int .i64] false (.tmp 88)),zh 90 84 false 10,zh 91 84 false 13,zg 92 84 false (.idx 2 (.tmp 90) (.tmp 91)),zg 93 84 false (.fld 1 (.tmp 92)),zg 94 84 false (.load [.int .i64] false (.tmp 93)),zg 95 84 false (.cmp .neq .i64 (.tmp 89) (.tmp 94)),zx 96 (.pick (.tmp 84) (.const (.bool true)) (.tmp 95))]) (.cond (.tmp 96) (.ref 2) .skip))) (.ref 3)
def T3n5:XC:=.seq (.seq (.ops [zm 67 13,zm 68 6,ze 69 68,zk 70 .lss 67 69]) (.cond (.tmp 70) .skip (.exit 0))) (.ref 4)
def T3n6:XC:=.seq (.ops [zx 2 (.mov (.const (.bool true)))]) .ret
def T3n7:XC:=.seq (.seq (.ops [zx 13 (.mov (.const (.int .i64 0)))]) (.blk 0 (.loop (.ref 5)))) (.ref 6)
def T3n8:XC:=.seq (.seq (.ops [zm 36 5,zm 37 12,zk 38 .neq 36 37,zm 39 38,zh 40 39 false 8,zh 41 39 false 12,zg 42 39 false (.cmp .neq .i64 (.tmp 40) (.tmp 41)),zx 43 (.pick (.tmp 39) (.const (.bool true)) (.tmp 42)),zm 44 43,zh 45 44 false 4,zh 46 44 false 11,zg 47 44 false (.cmp .neq .i64 (.tmp 45) (.tmp 46)),zx 48 (.pick (.tmp 44) (.const (.bool true)) (.tmp 47)),zm 49 48,zh 50 49 false 7,zh 51 49 false 11,zg 52 49 false (.cmp .neq .i64 (.tmp 50) (.tmp 51)),zx 53 (.pick (.tmp 49) (.const (.bool true)) (.tmp 52)),zm 54 53,zh 55 54 false 3,zh 56 54 false 9,.mk (some 57) (some (54,false)) (.call 7 [.tmp 55,.tmp 56]),zg 58 54 false (.not (.tmp 57)),zx 59 (.pick (.tmp 54) (.const (.bool true)) (.tmp 58)),zm 60 59,zh 61 60 false 6,zg 62 60 false (.lenS (.tmp 61)),zh 63 60 false 10,zg 64 60 false (.lenS (.tmp 63)),zg 65 60 false (.cmp .neq .i64 (.tmp 62) (.tmp 64)),zx 66 (.pick (.tmp 60) (.const (.bool true)) (.tmp 65))]) (.cond (.tmp 66) (.ref 1) .skip)) (.ref 7)
def T3n9:XC:=.seq (.ops [zm 30 0,zc 31 6 [.tmp 30],zm 29 31,zy 32 29 0,zy 33 29 1,zy 34 29 2,zy 35 29 3,zm 9 32,zm 10 33,zm 11 34,zm 12 35]) (.ref 8)
def T3n10:XC:=.seq (.ops [zm 24 0,zc 25 5 [.tmp 24],zm 23 25,zy 26 23 0,zy 27 23 1,zy 28 23 2,zm 6 26,zm 7 27,zm 8 28]) (.ref 9)
def T3n11:XC:=.seq (.ops [zm 18 0,zc 19 4 [.tmp 18],zm 17 19,zy 20 17 0,zy 21 17 1,zy 22 17 2,zm 3 20,zm 4 21,zm 5 22]) (.ref 10)
def T3n12:XC:=.seq (.seq (.ops [zm 14 0,zx 15 (.lenT (.tmp 14)),zx 16 (.cmp .gtr .i64 (.tmp 15) (.const (.int .i64 4000)))]) (.cond (.tmp 16) (.ref 0) .skip)) (.ref 11)
def T3:Nat→XC
 | 0=>T3n0
 | 1=>T3n1
 | 2=>T3n2
 | 3=>T3n3
 | 4=>T3n4
 | 5=>T3n5
 | 6=>T3n6
 | 7=>T3n7
 | 8=>T3n8
 | 9=>T3n9
 | 10=>T3n10
 | 11=>T3n11
 | 12=>T3n12
 | _=>.skip
theorem t3n0:T3 0=T3n0:=rfl
theorem t3n1:T3 1=T3n1:=rfl
theorem t3n2:T3 2=T3n2:=rfl
theorem t3n3:T3 3=T3n3:=rfl
theorem t3n4:T3 4=T3n4:=rfl
theorem t3n5:T3 5=T3n5:=rfl
theorem t3n6:T3 6=T3n6:=rfl
theorem t3n7:T3 7=T3n7:=rfl
theorem t3n8:T3 8=T3n8:=rfl
theorem t3n9:T3 9=T3n9:=rfl
theorem t3n10:T3 10=T3n10:=rfl
theorem t3n11:T3 11=T3n11:=rfl
theorem t3n12:T3 12=T3n12:=rfl
def X3:XC:=.seq (.ops [zx 2 (.mov (.const (.bool false)))]) (.ref 12)
abbrev K3:List Nat:=[0,2,3,4,5,6,7,8,9,10,11,12,13,16,66,70,96]
theorem n3:Tryz.f3.ntmps=97:=by kernel_rfl
theorem r3:resT Tryz.f3.results.toList=some [2]:=by kernel_rfl
theorem x3:cmpF Tryz.prog Tryz.f3=some (expand T3 14 X3):=by kernel_rfl
def T5n0:XC:=.seq (.ops [zm 21 8,zx 2 (.mov (.const (.slice none 0 0))),zm 3 21,zx 4 (.mov (.const (.int .i64 150)))]) .ret
def T5n1:XC:=.seq (.ops [zm 19 8,zx 20 (.cmp .gtr .i64 (.tmp 19) (.const (.int .i64 0)))]) (.cond (.tmp 20) (.ref 0) .skip)
def T5n2:XC:=.seq (.ops [zm 22 6,zm 2 22,zx 3 (.mov (.const (.int .i64 0))),zx 4 (.mov (.const (.int .i64 0)))]) .ret
def T5n3:XC:=.seq (.seq (.ops [zm 15 0,zm 16 5,zm 17 7,zc 18 9 [.tmp 15,.tmp 16,.tmp 17],zm 8 18]) (.ref 1)) (.ref 2)
def T5n4:XC:=.seq (.ops [zm 10 0,zc 11 8 [.tmp 10],zm 9 11,zy 12 9 0,zy 13 9 1,zy 14 9 2,zm 5 12,zm 6 13,zm 7 14]) (.ref 3)
def T5:Nat→XC
 | 0=>T5n0
 | 1=>T5n1
 | 2=>T5n2
 | 3=>T5n3
 | 4=>T5n4
 | _=>.skip
theorem t5n0:T5 0=T5n0:=rfl
theorem t5n1:T5 1=T5n1:=rfl
theorem t5n2:T5 2=T5n2:=rfl
theorem t5n3:T5 3=T5n3:=rfl
theorem t5n4:T5 4=T5n4:=rfl
def X5:XC:=.seq (.ops [zx 2 (.mov (.const (.slice none 0 0))),zx 3 (.mov (.const (.int .i64 0))),zx 4 (.mov (.const (.int .i64 0)))]) (.ref 4)
abbrev K5:List Nat:=[0,2,3,4,5,6,7,8,20]
theorem n5:Tryz.f5.ntmps=23:=by kernel_rfl
theorem r5:resT Tryz.f5.results.toList=some [2,3,4]:=by kernel_rfl
theorem x5:cmpF Tryz.prog Tryz.f5=some (expand T5 6 X5):=by kernel_rfl
def T7n0:XC:=.seq (.ops [zx 4 (.mov (.const (.bool false)))]) .ret
def T7n1:XC:=.seq (.ops [zx 4 (.mov (.const (.bool false)))]) .ret
def T7n2:XC:=.ops [zm 15 5,zp 16 15,zm 5 16]
def T7n3:XC:=.seq (.blk 1 (.seq (.ops [zm 17 0,zm 18 5,zd 19 5 17 18,zi 20 19,zm 21 1,zm 22 5,zd 23 5 21 22,zi 24 23,zx 25 (.eqa true [.int .i64,.int .i64,.int .i64,.int .i64,.int .i64] (.tmp 20) (.tmp 24))]) (.cond (.tmp 25) (.ref 1) .skip))) (.ref 2)
def T7n4:XC:=.seq (.seq (.ops [zm 11 5,zm 12 0,ze 13 12,zk 14 .lss 11 13]) (.cond (.tmp 14) .skip (.exit 0))) (.ref 3)
def T7n5:XC:=.seq (.ops [zx 4 (.mov (.const (.bool true)))]) .ret
def T7n6:XC:=.seq (.seq (.ops [zx 5 (.mov (.const (.int .i64 0)))]) (.blk 0 (.loop (.ref 4)))) (.ref 5)
def T7n7:XC:=.seq (.seq (.ops [zm 6 0,ze 7 6,zm 8 1,ze 9 8,zk 10 .neq 7 9]) (.cond (.tmp 10) (.ref 0) .skip)) (.ref 6)
def T7:Nat→XC
 | 0=>T7n0
 | 1=>T7n1
 | 2=>T7n2
 | 3=>T7n3
 | 4=>T7n4
 | 5=>T7n5
 | 6=>T7n6
 | 7=>T7n7
 | _=>.skip
theorem t7n0:T7 0=T7n0:=rfl
theorem t7n1:T7 1=T7n1:=rfl
theorem t7n2:T7 2=T7n2:=rfl
theorem t7n3:T7 3=T7n3:=rfl
theorem t7n4:T7 4=T7n4:=rfl
theorem t7n5:T7 5=T7n5:=rfl
theorem t7n6:T7 6=T7n6:=rfl
theorem t7n7:T7 7=T7n7:=rfl
def X7:XC:=.seq (.ops [zx 4 (.mov (.const (.bool false)))]) (.ref 7)
abbrev K7:List Nat:=[0,1,4,5,10,14,25]
theorem n7:Tryz.f7.ntmps=26:=by kernel_rfl
theorem r7:resT Tryz.f7.results.toList=some [4]:=by kernel_rfl
theorem x7:cmpF Tryz.prog Tryz.f7=some (expand T7 9 X7):=by kernel_rfl
attribute [go_sem] t3n0 t3n1 t3n2 t3n3 t3n4 t3n5 t3n6 t3n7 t3n8 t3n9 t3n10 t3n11 t3n12 T3n0 T3n1 T3n2 T3n3 T3n4 T3n5 T3n6 T3n7 T3n8 T3n9 T3n10 T3n11 T3n12 X3
attribute [go_sem] t5n0 t5n1 t5n2 t5n3 t5n4 T5n0 T5n1 T5n2 T5n3 T5n4 X5
attribute [go_sem] t7n0 t7n1 t7n2 t7n3 t7n4 t7n5 t7n6 t7n7 T7n0 T7n1 T7n2 T7n3 T7n4 T7n5 T7n6 T7n7 X7
end Go.Proofs.YtaiajnehnjnadaaGreatDoor
