/- Printed by program: the small code of functions, and that it is theirs. -/
import Derived.Test.YtlbiogokpadaoaaGreatDoorSxStill
import Derived.Test.YtlbiogokpadaoaaGreatDoorProg
import Derived.KernelRfl
set_option linter.unusedSimpArgs false
set_option linter.unusedVariables false
set_option linter.unnecessarySimpa false
namespace Go.Proofs.YtlbiogokpadaoaaGreatDoor
open Go Go.Sx
set_option maxRecDepth 100000
theorem n12:Tryz.f12.ntmps=68:=by kernel_rfl
theorem n13:Tryz.f13.ntmps=99:=by kernel_rfl
def T14n0:XC:=.seq (.ops [zm 19 3,zm 2 19]) .ret
def T14n1:XC:=.seq (.ops [zx 2 (.mov (.const (.bool false)))]) .ret
def T14n2:XC:=.seq (.ops [zx 2 (.mov (.const (.bool false)))]) .ret
def T14n3:XC:=.seq (.ops [zm 59 8,zm 60 10,zd 61 2 59 60,zf 62 0 61,zl 63 62,zx 64 (.cmp .eql .i64 (.tmp 63) (.const (.int .i64 8)))]) (.cond (.tmp 64) (.ref 2) .skip)
def T14n4:XC:=.seq (.blk 1 (.seq (.ops [zm 58 56,zm 10 58]) (.ref 3))) (.ops [zp 65 56,zm 56 65])
def T14n5:XC:=.seq (.cond (.tmp 57) .skip (.exit 0)) (.ref 4)
def T14n6:XC:=.seq (.ops [zk 57 .lss 56 55]) (.ref 5)
def T14n7:XC:=.seq (.ops [zm 66 3,zm 2 66]) .ret
def T14n8:XC:=.seq (.seq (.ops [zm 54 8,ze 55 54,zx 56 (.mov (.const (.int .i64 0)))]) (.blk 0 (.loop (.ref 6)))) (.ref 7)
def T14n9:XC:=.seq (.seq (.ops [zm 35 5,zx 36 (.cmp .neq .i64 (.tmp 35) (.const (.int .i64 0))),zm 37 36,zh 38 37 false 7,zg 39 37 false (.cmp .neq .i64 (.tmp 38) (.const (.int .i64 0))),zx 40 (.pick (.tmp 37) (.const (.bool true)) (.tmp 39)),zm 41 40,zh 42 41 false 9,zg 43 41 false (.cmp .neq .i64 (.tmp 42) (.const (.int .i64 0))),zx 44 (.pick (.tmp 41) (.const (.bool true)) (.tmp 43)),zm 45 44,zh 46 45 false 4,.mk (some 47) (some (45,false)) (.call 28 [.tmp 46]),zh 48 45 false 47,zh 49 48 true 8,.mk (some 50) (some (48,true)) (.call 28 [.tmp 49]),zg 51 48 true (.not (.tmp 50)),zg 52 45 false (.pick (.tmp 48) (.tmp 51) (.const (.bool false))),zx 53 (.pick (.tmp 45) (.const (.bool true)) (.tmp 52))]) (.cond (.tmp 53) (.ref 1) .skip)) (.ref 8)
def T14n10:XC:=.seq (.ops [zm 31 6,zc 32 22 [.tmp 31],zm 30 32,zy 33 30 0,zy 34 30 1,zm 8 33,zm 9 34]) (.ref 9)
def T14n11:XC:=.seq (.ops [zm 26 0,zc 27 26 [.tmp 26],zm 25 27,zy 28 25 0,zy 29 25 1,zm 6 28,zm 7 29]) (.ref 10)
def T14n12:XC:=.seq (.ops [zm 21 0,zc 22 22 [.tmp 21],zm 20 22,zy 23 20 0,zy 24 20 1,zm 4 23,zm 5 24]) (.ref 11)
def T14n13:XC:=.seq (.seq (.ops [zm 12 0,ze 13 12,zx 14 (.cmp .gtr .i64 (.tmp 13) (.const (.int .i64 100))),zm 15 14,zh 16 15 false 3,zg 17 15 false (.not (.tmp 16)),zx 18 (.pick (.tmp 15) (.const (.bool true)) (.tmp 17))]) (.cond (.tmp 18) (.ref 0) .skip)) (.ref 12)
def T14n14:XC:=.seq (.ops [zc 11 25 [],zm 3 11]) (.ref 13)
def T14:Nat→XC
 | 0=>T14n0
 | 1=>T14n1
 | 2=>T14n2
 | 3=>T14n3
 | 4=>T14n4
 | 5=>T14n5
 | 6=>T14n6
 | 7=>T14n7
 | 8=>T14n8
 | 9=>T14n9
 | 10=>T14n10
 | 11=>T14n11
 | 12=>T14n12
 | 13=>T14n13
 | 14=>T14n14
 | _=>.skip
theorem t14n0:T14 0=T14n0:=rfl
theorem t14n1:T14 1=T14n1:=rfl
theorem t14n2:T14 2=T14n2:=rfl
theorem t14n3:T14 3=T14n3:=rfl
theorem t14n4:T14 4=T14n4:=rfl
theorem t14n5:T14 5=T14n5:=rfl
theorem t14n6:T14 6=T14n6:=rfl
theorem t14n7:T14 7=T14n7:=rfl
theorem t14n8:T14 8=T14n8:=rfl
theorem t14n9:T14 9=T14n9:=rfl
theorem t14n10:T14 10=T14n10:=rfl
theorem t14n11:T14 11=T14n11:=rfl
theorem t14n12:T14 12=T14n12:=rfl
theorem t14n13:T14 13=T14n13:=rfl
theorem t14n14:T14 14=T14n14:=rfl
def X14:XC:=.seq (.ops [zx 2 (.mov (.const (.bool false)))]) (.ref 14)
abbrev K14:List Nat:=[0,2,3,4,5,6,7,8,9,10,18,53,55,56,57,64]
theorem n14:Tryz.f14.ntmps=67:=by kernel_rfl
theorem r14:resT Tryz.f14.results.toList=some [2]:=by kernel_rfl
theorem x14:cmpF Tryz.prog Tryz.f14=some (expand T14 16 X14):=by kernel_rfl
def T25n0:XC:=.seq (.ops [.mk (some 1) none (.call 53 [.const (.string (ByteArray.mk (Array.mk [UInt8.ofNat 115,UInt8.ofNat 101,UInt8.ofNat 116,UInt8.ofNat 32,UInt8.ofNat 49,UInt8.ofNat 32,UInt8.ofNat 50,UInt8.ofNat 10,UInt8.ofNat 115,UInt8.ofNat 101,UInt8.ofNat 116,UInt8.ofNat 32,UInt8.ofNat 50,UInt8.ofNat 32,UInt8.ofNat 51,UInt8.ofNat 10,UInt8.ofNat 97,UInt8.ofNat 100,UInt8.ofNat 100,UInt8.ofNat 32,UInt8.ofNat 49,UInt8.ofNat 32,UInt8.ofNat 49,UInt8.ofNat 32,UInt8.ofNat 50,UInt8.ofNat 10,UInt8.ofNat 104,UInt8.ofNat 97,UInt8.ofNat 108,UInt8.ofNat 116]))),.const (.string (ByteArray.mk (Array.mk [UInt8.ofNat 115,UInt8.ofNat 101,UInt8.ofNat 116,UInt8.ofNat 32,UInt8.ofNat 49,UInt8.ofNat 32,UInt8.ofNat 50,UInt8.ofNat 10,UInt8.ofNat 115,UInt8.ofNat 101,UInt8.ofNat 116,UInt8.ofNat 32,UInt8.ofNat 50,UInt8.ofNat 32,UInt8.ofNat 51,UInt8.ofNat 10,UInt8.ofNat 115,UInt8.ofNat 101,UInt8.ofNat 116,UInt8.ofNat 32,UInt8.ofNat 49,UInt8.ofNat 32,UInt8.ofNat 53,UInt8.ofNat 10,UInt8.ofNat 104,UInt8.ofNat 97,UInt8.ofNat 108,UInt8.ofNat 116])))]),zm 2 1,.mk (some 3) (some (2,true)) (.call 53 [.const (.string (ByteArray.mk (Array.mk [UInt8.ofNat 106,UInt8.ofNat 117,UInt8.ofNat 109,UInt8.ofNat 112,UInt8.ofNat 32,UInt8.ofNat 50,UInt8.ofNat 10,UInt8.ofNat 104,UInt8.ofNat 97,UInt8.ofNat 108,UInt8.ofNat 116,UInt8.ofNat 10,UInt8.ofNat 106,UInt8.ofNat 117,UInt8.ofNat 109,UInt8.ofNat 112,UInt8.ofNat 32,UInt8.ofNat 51,UInt8.ofNat 10,UInt8.ofNat 115,UInt8.ofNat 101,UInt8.ofNat 116,UInt8.ofNat 32,UInt8.ofNat 49,UInt8.ofNat 32,UInt8.ofNat 49]))),.const (.string (ByteArray.mk (Array.mk [UInt8.ofNat 115,UInt8.ofNat 101,UInt8.ofNat 116,UInt8.ofNat 32,UInt8.ofNat 49,UInt8.ofNat 32,UInt8.ofNat 49])))]),zx 4 (.pick (.tmp 2) (.tmp 3) (.const (.bool false))),zm 0 4]) .ret
def T25:Nat→XC
 | 0=>T25n0
 | _=>.skip
theorem t25n0:T25 0=T25n0:=rfl
def X25:XC:=.seq (.ops [zx 0 (.mov (.const (.bool false)))]) (.ref 0)
abbrev K25:List Nat:=[0]
theorem n25:Tryz.f25.ntmps=5:=by kernel_rfl
theorem r25:resT Tryz.f25.results.toList=some [0]:=by kernel_rfl
theorem x25:cmpF Tryz.prog Tryz.f25=some (expand T25 2 X25):=by kernel_rfl
def T53n0:XC:=.seq (.ops [zx 4 (.mov (.const (.bool false)))]) .ret
def T53n1:XC:=.seq (.ops [zx 4 (.mov (.const (.bool false)))]) .ret
def T53n2:XC:=.seq (.ops [zm 62 8,zm 63 13,zd 64 5 62 63,zi 65 64,zm 66 11,zm 67 13,zd 68 5 66 67,zi 69 68,zx 70 (.eqa true [.int .i64,.int .i64,.int .i64,.int .i64,.int .i64] (.tmp 65) (.tmp 69))]) (.cond (.tmp 70) (.ref 1) .skip)
def T53n3:XC:=.seq (.blk 1 (.seq (.ops [zm 61 59,zm 13 61]) (.ref 2))) (.ops [zp 71 59,zm 59 71])
def T53n4:XC:=.seq (.cond (.tmp 60) .skip (.exit 0)) (.ref 3)
def T53n5:XC:=.seq (.ops [zk 60 .lss 59 58]) (.ref 4)
def T53n6:XC:=.seq (.ops [zx 4 (.mov (.const (.bool true)))]) .ret
def T53n7:XC:=.seq (.seq (.ops [zm 57 8,ze 58 57,zx 59 (.mov (.const (.int .i64 0)))]) (.blk 0 (.loop (.ref 5)))) (.ref 6)
def T53n8:XC:=.seq (.seq (.ops [zm 31 7,zx 32 (.cmp .neq .i64 (.tmp 31) (.const (.int .i64 0))),zm 33 32,zh 34 33 false 10,zg 35 33 false (.cmp .neq .i64 (.tmp 34) (.const (.int .i64 0))),zx 36 (.pick (.tmp 33) (.const (.bool true)) (.tmp 35)),zm 37 36,zh 38 37 false 12,zg 39 37 false (.cmp .neq .i64 (.tmp 38) (.const (.int .i64 0))),zx 40 (.pick (.tmp 37) (.const (.bool true)) (.tmp 39)),zm 41 40,zh 42 41 false 8,zg 43 41 false (.lenS (.tmp 42)),zh 44 41 false 11,zg 45 41 false (.lenS (.tmp 44)),zg 46 41 false (.cmp .neq .i64 (.tmp 43) (.tmp 45)),zx 47 (.pick (.tmp 41) (.const (.bool true)) (.tmp 46)),zm 48 47,zh 49 48 false 1,zg 50 48 false (.eqs .neq (.tmp 49) (.const (.string (ByteArray.mk (Array.mk []))))),zh 51 48 false 50,zh 52 51 true 8,zg 53 51 true (.lenS (.tmp 52)),zg 54 51 true (.cmp .eql .i64 (.tmp 53) (.const (.int .i64 0))),zg 55 48 false (.pick (.tmp 51) (.tmp 54) (.const (.bool false))),zx 56 (.pick (.tmp 48) (.const (.bool true)) (.tmp 55))]) (.cond (.tmp 56) (.ref 0) .skip)) (.ref 7)
def T53n9:XC:=.seq (.ops [zm 27 5,zc 28 26 [.tmp 27],zm 26 28,zy 29 26 0,zy 30 26 1,zm 11 29,zm 12 30]) (.ref 8)
def T53n10:XC:=.seq (.ops [zm 21 1,zc 22 66 [.tmp 21],zm 20 22,zy 23 20 0,zy 24 20 1,zy 25 20 2,zm 8 23,zm 9 24,zm 10 25]) (.ref 9)
def T53n11:XC:=.seq (.ops [zm 15 0,zc 16 66 [.tmp 15],zm 14 16,zy 17 14 0,zy 18 14 1,zy 19 14 2,zm 5 17,zm 6 18,zm 7 19]) (.ref 10)
def T53:Nat→XC
 | 0=>T53n0
 | 1=>T53n1
 | 2=>T53n2
 | 3=>T53n3
 | 4=>T53n4
 | 5=>T53n5
 | 6=>T53n6
 | 7=>T53n7
 | 8=>T53n8
 | 9=>T53n9
 | 10=>T53n10
 | 11=>T53n11
 | _=>.skip
theorem t53n0:T53 0=T53n0:=rfl
theorem t53n1:T53 1=T53n1:=rfl
theorem t53n2:T53 2=T53n2:=rfl
theorem t53n3:T53 3=T53n3:=rfl
theorem t53n4:T53 4=T53n4:=rfl
theorem t53n5:T53 5=T53n5:=rfl
theorem t53n6:T53 6=T53n6:=rfl
theorem t53n7:T53 7=T53n7:=rfl
theorem t53n8:T53 8=T53n8:=rfl
theorem t53n9:T53 9=T53n9:=rfl
theorem t53n10:T53 10=T53n10:=rfl
theorem t53n11:T53 11=T53n11:=rfl
def X53:XC:=.seq (.ops [zx 4 (.mov (.const (.bool false)))]) (.ref 11)
abbrev K53:List Nat:=[0,1,4,5,7,8,10,11,12,13,56,58,59,60,70]
theorem n53:Tryz.f53.ntmps=72:=by kernel_rfl
theorem r53:resT Tryz.f53.results.toList=some [4]:=by kernel_rfl
theorem x53:cmpF Tryz.prog Tryz.f53=some (expand T53 13 X53):=by kernel_rfl
def T28n0:XC:=.seq (.ops [zm 3 0,zc 4 59 [.tmp 3,.func 60],zx 5 (.not (.tmp 4)),zm 2 5]) .ret
def T28:Nat→XC
 | 0=>T28n0
 | _=>.skip
theorem t28n0:T28 0=T28n0:=rfl
def X28:XC:=.seq (.ops [zx 2 (.mov (.const (.bool false)))]) (.ref 0)
abbrev K28:List Nat:=[0,2]
theorem n28:Tryz.f28.ntmps=6:=by kernel_rfl
theorem r28:resT Tryz.f28.results.toList=some [2]:=by kernel_rfl
theorem x28:cmpF Tryz.prog Tryz.f28=some (expand T28 2 X28):=by kernel_rfl
attribute [go_sem] t14n0 t14n1 t14n2 t14n3 t14n4 t14n5 t14n6 t14n7 t14n8 t14n9 t14n10 t14n11 t14n12 t14n13 t14n14 T14n0 T14n1 T14n2 T14n3 T14n4 T14n5 T14n6 T14n7 T14n8 T14n9 T14n10 T14n11 T14n12 T14n13 T14n14 X14
attribute [go_sem] t25n0 T25n0 X25
attribute [go_sem] t53n0 t53n1 t53n2 t53n3 t53n4 t53n5 t53n6 t53n7 t53n8 t53n9 t53n10 t53n11 T53n0 T53n1 T53n2 T53n3 T53n4 T53n5 T53n6 T53n7 T53n8 T53n9 T53n10 T53n11 X53
attribute [go_sem] t28n0 T28n0 X28
def T59n0:XC:=.seq (.ops [zm 5 0,zm 6 1,zc 7 88 [.tmp 5,.tmp 6],zx 8 (.cmp .geq .i64 (.tmp 7) (.const (.int .i64 0))),zm 4 8]) .ret
def T59:Nat→XC
 | 0=>T59n0
 | _=>.skip
theorem t59n0:T59 0=T59n0:=rfl
def X59:XC:=.seq (.ops [zx 4 (.mov (.const (.bool false)))]) (.ref 0)
abbrev K59:List Nat:=[0,1,4]
theorem n59:Tryz.f59.ntmps=9:=by kernel_rfl
theorem r59:resT Tryz.f59.results.toList=some [4]:=by kernel_rfl
theorem x59:cmpF Tryz.prog Tryz.f59=some (expand T59 2 X59):=by kernel_rfl
def T60n0:XC:=.seq (.ops [zf 3 0 1,zl 4 3,zx 5 (.cmp .geq .i64 (.tmp 4) (.const (.int .i64 1))),zm 6 5,zg 7 6 true (.fld 0 (.tmp 1)),zg 8 6 true (.load [.int .i64] false (.tmp 7)),zg 9 6 true (.cmp .leq .i64 (.tmp 8) (.const (.int .i64 6))),zx 10 (.pick (.tmp 6) (.tmp 9) (.const (.bool false))),zm 2 10]) .ret
def T60:Nat→XC
 | 0=>T60n0
 | _=>.skip
theorem t60n0:T60 0=T60n0:=rfl
def X60:XC:=.seq (.ops [zx 1 (.box 46 2 (.tmp 0)),zx 2 (.mov (.const (.bool false)))]) (.ref 0)
abbrev K60:List Nat:=[0,1,2]
theorem n60:Tryz.f60.ntmps=11:=by kernel_rfl
theorem r60:resT Tryz.f60.results.toList=some [2]:=by kernel_rfl
theorem x60:cmpF Tryz.prog Tryz.f60=some (expand T60 2 X60):=by kernel_rfl
def T88n0:XC:=.seq (.ops [zm 17 5,zm 4 17]) .ret
def T88n1:XC:=.seq (.ops [zm 11 1,zm 12 0,zm 13 5,zd 14 2 12 13,zx 15 (.load [.int .i64,.int .i64] true (.tmp 14)),.mk (some 16) none (.callv (.tmp 11) [.tmp 15])]) (.cond (.tmp 16) (.ref 0) .skip)
def T88n2:XC:=.seq (.blk 1 (.seq (.ops [zm 10 8,zm 5 10]) (.ref 1))) (.ops [zp 18 8,zm 8 18])
def T88n3:XC:=.seq (.cond (.tmp 9) .skip (.exit 0)) (.ref 2)
def T88n4:XC:=.seq (.ops [zk 9 .lss 8 7]) (.ref 3)
def T88n5:XC:=.seq (.ops [zx 4 (.mov (.const (.int .i64 (-1))))]) .ret
def T88n6:XC:=.seq (.seq (.ops [zm 6 0,ze 7 6,zx 8 (.mov (.const (.int .i64 0)))]) (.blk 0 (.loop (.ref 4)))) (.ref 5)
def T88:Nat→XC
 | 0=>T88n0
 | 1=>T88n1
 | 2=>T88n2
 | 3=>T88n3
 | 4=>T88n4
 | 5=>T88n5
 | 6=>T88n6
 | _=>.skip
theorem t88n0:T88 0=T88n0:=rfl
theorem t88n1:T88 1=T88n1:=rfl
theorem t88n2:T88 2=T88n2:=rfl
theorem t88n3:T88 3=T88n3:=rfl
theorem t88n4:T88 4=T88n4:=rfl
theorem t88n5:T88 5=T88n5:=rfl
theorem t88n6:T88 6=T88n6:=rfl
def X88:XC:=.seq (.ops [zx 4 (.mov (.const (.int .i64 0)))]) (.ref 6)
abbrev K88:List Nat:=[0,1,4,5,7,8,9,16]
theorem n88:Tryz.f88.ntmps=19:=by kernel_rfl
theorem r88:resT Tryz.f88.results.toList=some [4]:=by kernel_rfl
theorem x88:cmpF Tryz.prog Tryz.f88=some (expand T88 8 X88):=by kernel_rfl
attribute [go_sem] t59n0 T59n0 X59
attribute [go_sem] t60n0 T60n0 X60
attribute [go_sem] t88n0 t88n1 t88n2 t88n3 t88n4 t88n5 t88n6 T88n0 T88n1 T88n2 T88n3 T88n4 T88n5 T88n6 X88
end Go.Proofs.YtlbiogokpadaoaaGreatDoor
