/- Printed by program: the small code of functions, and that it is theirs. -/
import Derived.Test.YtlbiogokpadaoaaGreatDoorSxStill
import Derived.Test.YtlbiogokpadaoaaGreatDoorProg
import Derived.KernelRfl
set_option linter.unusedSimpArgs false
set_option linter.unusedVariables false
set_option linter.unnecessarySimpa false
namespace Go.Proofs.YtlbiogokpadaoaaGreatDoor
open Go Go.Sx
set_option maxRecDepth 100000
theorem n5:Tryz.f5.ntmps=22:=by kernel_rfl
theorem r5:resT Tryz.f5.results.toList=some [2]:=by kernel_rfl
def T57n0:XC:=.seq (.ops [zx 2 (.mov (.const (.slice none 0 0))),zx 3 (.mov (.const (.int .i64 2)))]) .ret
def T57n1:XC:=.seq (.ops [zm 19 5,zm 2 19,zx 3 (.mov (.const (.int .i64 0)))]) .ret
def T57n2:XC:=.seq (.seq (.ops [zm 14 5,ze 15 14,zx 16 (.load [.slc] false (.tmp 4)),ze 17 16,zk 18 .eql 15 17]) (.cond (.tmp 18) (.ref 1) .skip)) (.ops [zm 20 5,zn (.store 1 (.tmp 4) (.tmp 20))])
def T57n3:XC:=.blk 1 (.seq (.ops [zx 11 (.load [.slc] false (.tmp 4)),zx 12 (.mkfn (.func 86) [] [.tmp 4]),zc 13 85 [.tmp 11,.tmp 12],zm 5 13]) (.ref 2))
def T57n4:XC:=.seq (.ops [zm 9 0,zc 10 82 [.tmp 9],zx 4 (.alloc 22 [.slice none 0 0]),zn (.store 1 (.tmp 4) (.tmp 10))]) (.blk 0 (.loop (.ref 3)))
def T57n5:XC:=.seq (.seq (.ops [zm 6 0,ze 7 6,zx 8 (.cmp .gtr .i64 (.tmp 7) (.const (.int .i64 1024)))]) (.cond (.tmp 8) (.ref 0) .skip)) (.ref 4)
def T57:Nat→XC
 | 0=>T57n0
 | 1=>T57n1
 | 2=>T57n2
 | 3=>T57n3
 | 4=>T57n4
 | 5=>T57n5
 | _=>.skip
theorem t57n0:T57 0=T57n0:=rfl
theorem t57n1:T57 1=T57n1:=rfl
theorem t57n2:T57 2=T57n2:=rfl
theorem t57n3:T57 3=T57n3:=rfl
theorem t57n4:T57 4=T57n4:=rfl
theorem t57n5:T57 5=T57n5:=rfl
def X57:XC:=.seq (.ops [zx 2 (.mov (.const (.slice none 0 0))),zx 3 (.mov (.const (.int .i64 0)))]) (.ref 5)
abbrev K57:List Nat:=[0,2,3,4,5,8,18]
theorem n57:Tryz.f57.ntmps=21:=by kernel_rfl
theorem r57:resT Tryz.f57.results.toList=some [2,3]:=by kernel_rfl
theorem x57:cmpF Tryz.prog Tryz.f57=some (expand T57 7 X57):=by kernel_rfl
def T58n0:XC:=.seq (.ops [zm 16 5,zx 2 (.mov (.const (.slice none 0 0))),zm 3 16]) .ret
def T58n1:XC:=.ops [zx 29 (.load [.slc] false (.tmp 6)),zf 30 1 8,zl 31 30,zd 32 1 29 31,zn (.store 1 (.tmp 32) (.const (.bool true)))]
def T58n2:XC:=.seq (.ops [zf 26 0 8,zl 27 26,zx 28 (.cmp .eql .i64 (.tmp 27) (.const (.int .i64 8)))]) (.cond (.tmp 28) (.ref 1) .skip)
def T58n3:XC:=.seq (.blk 1 (.seq (.ops [zd 24 2 20 22,zx 25 (.load [.int .i64,.int .i64] true (.tmp 24)),zx 8 (.alloc 46 [.int .i64 0,.int .i64 0]),zn (.store 2 (.tmp 8) (.tmp 25))]) (.ref 2))) (.ops [zp 33 22,zm 22 33])
def T58n4:XC:=.seq (.cond (.tmp 23) .skip (.exit 0)) (.ref 3)
def T58n5:XC:=.seq (.ops [zk 23 .lss 22 21]) (.ref 4)
def T58n6:XC:=.seq (.ops [zm 34 0,zx 35 (.mkfn (.func 87) [] [.tmp 6]),zc 36 85 [.tmp 34,.tmp 35],zm 2 36,zx 3 (.mov (.const (.int .i64 0)))]) .ret
def T58n7:XC:=.seq (.seq (.ops [zm 20 4,ze 21 20,zx 22 (.mov (.const (.int .i64 0)))]) (.blk 0 (.loop (.ref 5)))) (.ref 6)
def T58n8:XC:=.seq (.ops [zm 17 0,ze 18 17,zx 19 (.mkslc 4 1 1 [.bool false] (.tmp 18) (.tmp 18)),zx 6 (.alloc 30 [.slice none 0 0]),zn (.store 1 (.tmp 6) (.tmp 19))]) (.ref 7)
def T58n9:XC:=.seq (.seq (.ops [zm 14 5,zx 15 (.cmp .neq .i64 (.tmp 14) (.const (.int .i64 0)))]) (.cond (.tmp 15) (.ref 0) .skip)) (.ref 8)
def T58n10:XC:=.seq (.ops [zm 10 0,zc 11 22 [.tmp 10],zm 9 11,zy 12 9 0,zy 13 9 1,zm 4 12,zm 5 13]) (.ref 9)
def T58:Nat→XC
 | 0=>T58n0
 | 1=>T58n1
 | 2=>T58n2
 | 3=>T58n3
 | 4=>T58n4
 | 5=>T58n5
 | 6=>T58n6
 | 7=>T58n7
 | 8=>T58n8
 | 9=>T58n9
 | 10=>T58n10
 | _=>.skip
theorem t58n0:T58 0=T58n0:=rfl
theorem t58n1:T58 1=T58n1:=rfl
theorem t58n2:T58 2=T58n2:=rfl
theorem t58n3:T58 3=T58n3:=rfl
theorem t58n4:T58 4=T58n4:=rfl
theorem t58n5:T58 5=T58n5:=rfl
theorem t58n6:T58 6=T58n6:=rfl
theorem t58n7:T58 7=T58n7:=rfl
theorem t58n8:T58 8=T58n8:=rfl
theorem t58n9:T58 9=T58n9:=rfl
theorem t58n10:T58 10=T58n10:=rfl
def X58:XC:=.seq (.ops [zx 2 (.mov (.const (.slice none 0 0))),zx 3 (.mov (.const (.int .i64 0)))]) (.ref 10)
abbrev K58:List Nat:=[0,2,3,4,5,6,8,15,20,21,22,23,28]
theorem n58:Tryz.f58.ntmps=37:=by kernel_rfl
theorem r58:resT Tryz.f58.results.toList=some [2,3]:=by kernel_rfl
theorem x58:cmpF Tryz.prog Tryz.f58=some (expand T58 12 X58):=by kernel_rfl
def T85n0:XC:=.ops [zm 33 5,zm 34 6,zp 35 34,zd 36 1 33 35,zl 37 36,zp 38 37,zd 39 1 33 35,zn (.store 1 (.tmp 39) (.tmp 38))]
def T85n1:XC:=.seq (.ops [zm 29 1,zm 30 6,.mk (some 31) none (.callv (.tmp 29) [.tmp 30]),zx 32 (.not (.tmp 31))]) (.cond (.tmp 32) (.ref 0) .skip)
def T85n2:XC:=.seq (.ops [zm 21 5,zm 22 6,zp 23 22,zm 24 5,zm 25 6,zd 26 1 24 25,zl 27 26,zd 28 1 21 23,zn (.store 1 (.tmp 28) (.tmp 27))]) (.ref 1)
def T85n3:XC:=.seq (.blk 1 (.seq (.ops [zm 20 18,zm 6 20]) (.ref 2))) (.ops [zp 40 18,zm 18 40])
def T85n4:XC:=.seq (.cond (.tmp 19) .skip (.exit 0)) (.ref 3)
def T85n5:XC:=.seq (.ops [zk 19 .lss 18 17]) (.ref 4)
def T85n6:XC:=.ops [zm 67 5,zf 68 4 9,zl 69 68,zd 70 1 67 69,zl 71 70,zf 72 4 9,zn (.store 1 (.tmp 72) (.tmp 71))]
def T85n7:XC:=.seq (.ops [zm 56 10,zm 57 56,zh 58 57 false 11,zx 59 (.pick (.tmp 57) (.const (.bool true)) (.tmp 58)),zm 60 59,zg 61 60 true (.fld 4 (.tmp 9)),zg 62 60 true (.load [.int .i64] false (.tmp 61)),zh 63 60 true 0,zg 64 60 true (.lenS (.tmp 63)),zg 65 60 true (.cmp .lss .i64 (.tmp 62) (.tmp 64)),zx 66 (.pick (.tmp 60) (.tmp 65) (.const (.bool false)))]) (.cond (.tmp 66) (.ref 6) .skip)
def T85n8:XC:=.ops [zm 73 7,zi 74 9,zx 75 (.buildS 41 1 5 [.int .i64 0,.int .i64 0,.int .i64 0,.int .i64 0,.int .i64 0] [(0,.tmp 74)]),zx 76 (.app 41 5 40 (.tmp 73) (.tmp 75)),zm 7 76]
def T85n9:XC:=.seq (.seq (.ops [zi 52 9,zc 53 84 [.tmp 52],zm 51 53,zy 54 51 0,zy 55 51 1,zm 10 54,zm 11 55]) (.ref 7)) (.ref 8)
def T85n10:XC:=.seq (.seq (.ops [zm 48 1,zm 49 8,.mk (some 50) none (.callv (.tmp 48) [.tmp 49])]) (.cond (.tmp 50) (.exit 3) .skip)) (.ref 9)
def T85n11:XC:=.seq (.blk 3 (.seq (.ops [zm 45 43,zd 46 5 41 43,zi 47 46,zx 9 (.alloc 41 [.int .i64 0,.int .i64 0,.int .i64 0,.int .i64 0,.int .i64 0]),zm 8 45,zn (.store 5 (.tmp 9) (.tmp 47))]) (.ref 10))) (.ops [zp 77 43,zm 43 77])
def T85n12:XC:=.seq (.cond (.tmp 44) .skip (.exit 2)) (.ref 11)
def T85n13:XC:=.seq (.ops [zk 44 .lss 43 42]) (.ref 12)
def T85n14:XC:=.seq (.ops [zm 78 7,zm 4 78]) .ret
def T85n15:XC:=.seq (.seq (.ops [zm 41 0,ze 42 41,zx 43 (.mov (.const (.int .i64 0)))]) (.blk 2 (.loop (.ref 13)))) (.ref 14)
def T85n16:XC:=.seq (.ops [zx 7 (.mov (.const (.slice none 0 0)))]) (.ref 15)
def T85n17:XC:=.seq (.seq (.ops [zm 16 0,ze 17 16,zx 18 (.mov (.const (.int .i64 0)))]) (.blk 0 (.loop (.ref 5)))) (.ref 16)
def T85n18:XC:=.seq (.ops [zm 12 0,ze 13 12,zp 14 13,zx 15 (.mkslc 3 1 8 [.int .i64 0] (.tmp 14) (.tmp 14)),zm 5 15]) (.ref 17)
def T85:Nat→XC
 | 0=>T85n0
 | 1=>T85n1
 | 2=>T85n2
 | 3=>T85n3
 | 4=>T85n4
 | 5=>T85n5
 | 6=>T85n6
 | 7=>T85n7
 | 8=>T85n8
 | 9=>T85n9
 | 10=>T85n10
 | 11=>T85n11
 | 12=>T85n12
 | 13=>T85n13
 | 14=>T85n14
 | 15=>T85n15
 | 16=>T85n16
 | 17=>T85n17
 | 18=>T85n18
 | _=>.skip
theorem t85n0:T85 0=T85n0:=rfl
theorem t85n1:T85 1=T85n1:=rfl
theorem t85n2:T85 2=T85n2:=rfl
theorem t85n3:T85 3=T85n3:=rfl
theorem t85n4:T85 4=T85n4:=rfl
theorem t85n5:T85 5=T85n5:=rfl
theorem t85n6:T85 6=T85n6:=rfl
theorem t85n7:T85 7=T85n7:=rfl
theorem t85n8:T85 8=T85n8:=rfl
theorem t85n9:T85 9=T85n9:=rfl
theorem t85n10:T85 10=T85n10:=rfl
theorem t85n11:T85 11=T85n11:=rfl
theorem t85n12:T85 12=T85n12:=rfl
theorem t85n13:T85 13=T85n13:=rfl
theorem t85n14:T85 14=T85n14:=rfl
theorem t85n15:T85 15=T85n15:=rfl
theorem t85n16:T85 16=T85n16:=rfl
theorem t85n17:T85 17=T85n17:=rfl
theorem t85n18:T85 18=T85n18:=rfl
def X85:XC:=.seq (.ops [zx 4 (.mov (.const (.slice none 0 0)))]) (.ref 18)
abbrev K85:List Nat:=[0,1,4,5,6,7,8,9,10,11,17,18,19,32,41,42,43,44,50,66]
theorem n85:Tryz.f85.ntmps=79:=by kernel_rfl
theorem r85:resT Tryz.f85.results.toList=some [4]:=by kernel_rfl
theorem x85:cmpF Tryz.prog Tryz.f85=some (expand T85 20 X85):=by kernel_rfl
def T86n0:XC:=.seq (.ops [zm 14 4,zm 15 14,zg 16 15 true (.load [.slc] false (.tmp 1)),zh 17 15 true 0,zg 18 15 true (.idx 5 (.tmp 16) (.tmp 17)),zg 19 15 true (.fld 4 (.tmp 18)),zg 20 15 true (.load [.int .i64] false (.tmp 19)),zh 21 15 true 0,zg 22 15 true (.arith .add .i64 (.tmp 21) (.const (.int .i64 1))),zg 23 15 true (.cmp .eql .i64 (.tmp 20) (.tmp 22)),zx 24 (.pick (.tmp 15) (.tmp 23) (.const (.bool false))),zm 3 24]) .ret
def T86n1:XC:=.seq (.ops [zx 7 (.load [.slc] false (.tmp 1)),zm 8 0,zd 9 5 7 8,zi 10 9,zc 11 84 [.tmp 10],zm 6 11,zy 12 6 0,zy 13 6 1,zm 4 12,zm 5 13]) (.ref 0)
def T86:Nat→XC
 | 0=>T86n0
 | 1=>T86n1
 | _=>.skip
theorem t86n0:T86 0=T86n0:=rfl
theorem t86n1:T86 1=T86n1:=rfl
def X86:XC:=.seq (.ops [zx 3 (.mov (.const (.bool false)))]) (.ref 1)
abbrev K86:List Nat:=[0,1,3,4]
theorem n86:Tryz.f86.ntmps=25:=by kernel_rfl
theorem r86:resT Tryz.f86.results.toList=some [3]:=by kernel_rfl
theorem x86:cmpF Tryz.prog Tryz.f86=some (expand T86 3 X86):=by kernel_rfl
def T87n0:XC:=.seq (.ops [zx 4 (.load [.slc] false (.tmp 1)),zm 5 0,zd 6 1 4 5,zx 7 (.load [.bool] false (.tmp 6)),zm 3 7]) .ret
def T87:Nat→XC
 | 0=>T87n0
 | _=>.skip
theorem t87n0:T87 0=T87n0:=rfl
def X87:XC:=.seq (.ops [zx 3 (.mov (.const (.bool false)))]) (.ref 0)
abbrev K87:List Nat:=[0,1,3]
theorem n87:Tryz.f87.ntmps=8:=by kernel_rfl
theorem r87:resT Tryz.f87.results.toList=some [3]:=by kernel_rfl
theorem x87:cmpF Tryz.prog Tryz.f87=some (expand T87 2 X87):=by kernel_rfl
attribute [go_sem] t57n0 t57n1 t57n2 t57n3 t57n4 t57n5 T57n0 T57n1 T57n2 T57n3 T57n4 T57n5 X57
attribute [go_sem] t58n0 t58n1 t58n2 t58n3 t58n4 t58n5 t58n6 t58n7 t58n8 t58n9 t58n10 T58n0 T58n1 T58n2 T58n3 T58n4 T58n5 T58n6 T58n7 T58n8 T58n9 T58n10 X58
attribute [go_sem] t85n0 t85n1 t85n2 t85n3 t85n4 t85n5 t85n6 t85n7 t85n8 t85n9 t85n10 t85n11 t85n12 t85n13 t85n14 t85n15 t85n16 t85n17 t85n18 T85n0 T85n1 T85n2 T85n3 T85n4 T85n5 T85n6 T85n7 T85n8 T85n9 T85n10 T85n11 T85n12 T85n13 T85n14 T85n15 T85n16 T85n17 T85n18 X85
attribute [go_sem] t86n0 t86n1 T86n0 T86n1 X86
attribute [go_sem] t87n0 T87n0 X87
end Go.Proofs.YtlbiogokpadaoaaGreatDoor
