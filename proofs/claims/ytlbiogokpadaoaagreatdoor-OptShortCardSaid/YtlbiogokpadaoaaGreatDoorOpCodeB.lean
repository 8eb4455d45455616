/- Printed by program: the small code of functions, and that it is theirs. -/
import Derived.Test.YtlbiogokpadaoaaGreatDoorSxStill
import Derived.Test.YtlbiogokpadaoaaGreatDoorProg
import Derived.KernelRfl
set_option linter.unusedSimpArgs false
set_option linter.unusedVariables false
set_option linter.unnecessarySimpa false
namespace Go.Proofs.YtlbiogokpadaoaaGreatDoor
open Go Go.Sx
set_option maxRecDepth 100000
def T12n0:XC:=.seq (.ops [zm 18 3,zm 2 18]) .ret
def T12n1:XC:=.seq (.ops [zx 2 (.mov (.const (.bool false)))]) .ret
def T12n2:XC:=.seq (.ops [zx 2 (.mov (.const (.bool false)))]) .ret
def T12n3:XC:=.seq (.ops [zx 2 (.mov (.const (.bool false)))]) .ret
def T12n4:XC:=.seq (.ops [zm 57 4,zm 58 9,zd 59 5 57 58,zi 60 59,zm 61 7,zm 62 9,zd 63 5 61 62,zi 64 63,zx 65 (.eqa true [.int .i64,.int .i64,.int .i64,.int .i64,.int .i64] (.tmp 60) (.tmp 64))]) (.cond (.tmp 65) (.ref 3) .skip)
def T12n5:XC:=.seq (.blk 3 (.seq (.ops [zm 56 54,zm 9 56]) (.ref 4))) (.ops [zp 66 54,zm 54 66])
def T12n6:XC:=.seq (.cond (.tmp 55) .skip (.exit 2)) (.ref 5)
def T12n7:XC:=.seq (.ops [zk 55 .lss 54 53]) (.ref 6)
def T12n8:XC:=.seq (.ops [zm 52 4,ze 53 52,zx 54 (.mov (.const (.int .i64 0)))]) (.blk 2 (.loop (.ref 7)))
def T12n9:XC:=.seq (.seq (.ops [zm 43 8,zx 44 (.cmp .neq .i64 (.tmp 43) (.const (.int .i64 0))),zm 45 44,zh 46 45 false 7,zg 47 45 false (.lenS (.tmp 46)),zh 48 45 false 4,zg 49 45 false (.lenS (.tmp 48)),zg 50 45 false (.cmp .neq .i64 (.tmp 47) (.tmp 49)),zx 51 (.pick (.tmp 45) (.const (.bool true)) (.tmp 50))]) (.cond (.tmp 51) (.ref 2) .skip)) (.ref 8)
def T12n10:XC:=.ops [zm 35 6,zp 36 35,zm 6 36]
def T12n11:XC:=.seq (.blk 1 (.seq (.ops [zm 38 6,zm 39 4,zc 40 27 [.tmp 38,.tmp 39],zm 37 40,zy 41 37 0,zy 42 37 1,zm 7 41,zm 8 42]) (.ref 9))) (.ref 10)
def T12n12:XC:=.seq (.seq (.ops [zm 33 6,zx 34 (.cmp .lss .i64 (.tmp 33) (.const (.int .i64 5)))]) (.cond (.tmp 34) .skip (.exit 0))) (.ref 11)
def T12n13:XC:=.seq (.ops [zm 67 3,zm 2 67]) .ret
def T12n14:XC:=.seq (.seq (.ops [zx 6 (.mov (.const (.int .i64 0)))]) (.blk 0 (.loop (.ref 12)))) (.ref 13)
def T12n15:XC:=.seq (.seq (.ops [zm 24 5,zx 25 (.cmp .neq .i64 (.tmp 24) (.const (.int .i64 0))),zm 26 25,zh 27 26 false 4,zg 28 26 false (.lenS (.tmp 27)),zh 29 26 false 0,zg 30 26 false (.lenS (.tmp 29)),zg 31 26 false (.cmp .gtr .i64 (.tmp 28) (.tmp 30)),zx 32 (.pick (.tmp 26) (.const (.bool true)) (.tmp 31))]) (.cond (.tmp 32) (.ref 1) .skip)) (.ref 14)
def T12n16:XC:=.seq (.ops [zm 20 0,zc 21 26 [.tmp 20],zm 19 21,zy 22 19 0,zy 23 19 1,zm 4 22,zm 5 23]) (.ref 15)
def T12n17:XC:=.seq (.seq (.ops [zm 11 0,ze 12 11,zx 13 (.cmp .gtr .i64 (.tmp 12) (.const (.int .i64 100))),zm 14 13,zh 15 14 false 3,zg 16 14 false (.not (.tmp 15)),zx 17 (.pick (.tmp 14) (.const (.bool true)) (.tmp 16))]) (.cond (.tmp 17) (.ref 0) .skip)) (.ref 16)
def T12n18:XC:=.seq (.ops [zc 10 25 [],zm 3 10]) (.ref 17)
def T12:Nat→XC
 | 0=>T12n0
 | 1=>T12n1
 | 2=>T12n2
 | 3=>T12n3
 | 4=>T12n4
 | 5=>T12n5
 | 6=>T12n6
 | 7=>T12n7
 | 8=>T12n8
 | 9=>T12n9
 | 10=>T12n10
 | 11=>T12n11
 | 12=>T12n12
 | 13=>T12n13
 | 14=>T12n14
 | 15=>T12n15
 | 16=>T12n16
 | 17=>T12n17
 | 18=>T12n18
 | _=>.skip
theorem t12n0:T12 0=T12n0:=rfl
theorem t12n1:T12 1=T12n1:=rfl
theorem t12n2:T12 2=T12n2:=rfl
theorem t12n3:T12 3=T12n3:=rfl
theorem t12n4:T12 4=T12n4:=rfl
theorem t12n5:T12 5=T12n5:=rfl
theorem t12n6:T12 6=T12n6:=rfl
theorem t12n7:T12 7=T12n7:=rfl
theorem t12n8:T12 8=T12n8:=rfl
theorem t12n9:T12 9=T12n9:=rfl
theorem t12n10:T12 10=T12n10:=rfl
theorem t12n11:T12 11=T12n11:=rfl
theorem t12n12:T12 12=T12n12:=rfl
theorem t12n13:T12 13=T12n13:=rfl
theorem t12n14:T12 14=T12n14:=rfl
theorem t12n15:T12 15=T12n15:=rfl
theorem t12n16:T12 16=T12n16:=rfl
theorem t12n17:T12 17=T12n17:=rfl
theorem t12n18:T12 18=T12n18:=rfl
def X12:XC:=.seq (.ops [zx 2 (.mov (.const (.bool false)))]) (.ref 18)
abbrev K12:List Nat:=[0,2,3,4,5,6,7,8,9,17,32,34,51,53,54,55,65]
theorem n12:Tryz.f12.ntmps=68:=by kernel_rfl
theorem r12:resT Tryz.f12.results.toList=some [2]:=by kernel_rfl
theorem x12:cmpF Tryz.prog Tryz.f12=some (expand T12 20 X12):=by kernel_rfl
theorem n13:Tryz.f13.ntmps=99:=by kernel_rfl
theorem n14:Tryz.f14.ntmps=67:=by kernel_rfl
def T25n0:XC:=.seq (.ops [.mk (some 1) none (.call 53 [.const (.string (ByteArray.mk (Array.mk [UInt8.ofNat 115,UInt8.ofNat 101,UInt8.ofNat 116,UInt8.ofNat 32,UInt8.ofNat 49,UInt8.ofNat 32,UInt8.ofNat 50,UInt8.ofNat 10,UInt8.ofNat 115,UInt8.ofNat 101,UInt8.ofNat 116,UInt8.ofNat 32,UInt8.ofNat 50,UInt8.ofNat 32,UInt8.ofNat 51,UInt8.ofNat 10,UInt8.ofNat 97,UInt8.ofNat 100,UInt8.ofNat 100,UInt8.ofNat 32,UInt8.ofNat 49,UInt8.ofNat 32,UInt8.ofNat 49,UInt8.ofNat 32,UInt8.ofNat 50,UInt8.ofNat 10,UInt8.ofNat 104,UInt8.ofNat 97,UInt8.ofNat 108,UInt8.ofNat 116]))),.const (.string (ByteArray.mk (Array.mk [UInt8.ofNat 115,UInt8.ofNat 101,UInt8.ofNat 116,UInt8.ofNat 32,UInt8.ofNat 49,UInt8.ofNat 32,UInt8.ofNat 50,UInt8.ofNat 10,UInt8.ofNat 115,UInt8.ofNat 101,UInt8.ofNat 116,UInt8.ofNat 32,UInt8.ofNat 50,UInt8.ofNat 32,UInt8.ofNat 51,UInt8.ofNat 10,UInt8.ofNat 115,UInt8.ofNat 101,UInt8.ofNat 116,UInt8.ofNat 32,UInt8.ofNat 49,UInt8.ofNat 32,UInt8.ofNat 53,UInt8.ofNat 10,UInt8.ofNat 104,UInt8.ofNat 97,UInt8.ofNat 108,UInt8.ofNat 116])))]),zm 2 1,.mk (some 3) (some (2,true)) (.call 53 [.const (.string (ByteArray.mk (Array.mk [UInt8.ofNat 106,UInt8.ofNat 117,UInt8.ofNat 109,UInt8.ofNat 112,UInt8.ofNat 32,UInt8.ofNat 50,UInt8.ofNat 10,UInt8.ofNat 104,UInt8.ofNat 97,UInt8.ofNat 108,UInt8.ofNat 116,UInt8.ofNat 10,UInt8.ofNat 106,UInt8.ofNat 117,UInt8.ofNat 109,UInt8.ofNat 112,UInt8.ofNat 32,UInt8.ofNat 51,UInt8.ofNat 10,UInt8.ofNat 115,UInt8.ofNat 101,UInt8.ofNat 116,UInt8.ofNat 32,UInt8.ofNat 49,UInt8.ofNat 32,UInt8.ofNat 49]))),.const (.string (ByteArray.mk (Array.mk [UInt8.ofNat 115,UInt8.ofNat 101,UInt8.ofNat 116,UInt8.ofNat 32,UInt8.ofNat 49,UInt8.ofNat 32,UInt8.ofNat 49])))]),zx 4 (.pick (.tmp 2) (.tmp 3) (.const (.bool false))),zm 0 4]) .ret
def T25:Nat→XC
 | 0=>T25n0
 | _=>.skip
theorem t25n0:T25 0=T25n0:=rfl
def X25:XC:=.seq (.ops [zx 0 (.mov (.const (.bool false)))]) (.ref 0)
abbrev K25:List Nat:=[0]
theorem n25:Tryz.f25.ntmps=5:=by kernel_rfl
theorem r25:resT Tryz.f25.results.toList=some [0]:=by kernel_rfl
theorem x25:cmpF Tryz.prog Tryz.f25=some (expand T25 2 X25):=by kernel_rfl
def T53n0:XC:=.seq (.ops [zx 4 (.mov (.const (.bool false)))]) .ret
def T53n1:XC:=.seq (.ops [zx 4 (.mov (.const (.bool false)))]) .ret
def T53n2:XC:=.seq (.ops [zm 62 8,zm 63 13,zd 64 5 62 63,zi 65 64,zm 66 11,zm 67 13,zd 68 5 66 67,zi 69 68,zx 70 (.eqa true [.int .i64,.int .i64,.int .i64,.int .i64,.int .i64] (.tmp 65) (.tmp 69))]) (.cond (.tmp 70) (.ref 1) .skip)
def T53n3:XC:=.seq (.blk 1 (.seq (.ops [zm 61 59,zm 13 61]) (.ref 2))) (.ops [zp 71 59,zm 59 71])
def T53n4:XC:=.seq (.cond (.tmp 60) .skip (.exit 0)) (.ref 3)
def T53n5:XC:=.seq (.ops [zk 60 .lss 59 58]) (.ref 4)
def T53n6:XC:=.seq (.ops [zx 4 (.mov (.const (.bool true)))]) .ret
def T53n7:XC:=.seq (.seq (.ops [zm 57 8,ze 58 57,zx 59 (.mov (.const (.int .i64 0)))]) (.blk 0 (.loop (.ref 5)))) (.ref 6)
def T53n8:XC:=.seq (.seq (.ops [zm 31 7,zx 32 (.cmp .neq .i64 (.tmp 31) (.const (.int .i64 0))),zm 33 32,zh 34 33 false 10,zg 35 33 false (.cmp .neq .i64 (.tmp 34) (.const (.int .i64 0))),zx 36 (.pick (.tmp 33) (.const (.bool true)) (.tmp 35)),zm 37 36,zh 38 37 false 12,zg 39 37 false (.cmp .neq .i64 (.tmp 38) (.const (.int .i64 0))),zx 40 (.pick (.tmp 37) (.const (.bool true)) (.tmp 39)),zm 41 40,zh 42 41 false 8,zg 43 41 false (.lenS (.tmp 42)),zh 44 41 false 11,zg 45 41 false (.lenS (.tmp 44)),zg 46 41 false (.cmp .neq .i64 (.tmp 43) (.tmp 45)),zx 47 (.pick (.tmp 41) (.const (.bool true)) (.tmp 46)),zm 48 47,zh 49 48 false 1,zg 50 48 false (.eqs .neq (.tmp 49) (.const (.string (ByteArray.mk (Array.mk []))))),zh 51 48 false 50,zh 52 51 true 8,zg 53 51 true (.lenS (.tmp 52)),zg 54 51 true (.cmp .eql .i64 (.tmp 53) (.const (.int .i64 0))),zg 55 48 false (.pick (.tmp 51) (.tmp 54) (.const (.bool false))),zx 56 (.pick (.tmp 48) (.const (.bool true)) (.tmp 55))]) (.cond (.tmp 56) (.ref 0) .skip)) (.ref 7)
def T53n9:XC:=.seq (.ops [zm 27 5,zc 28 26 [.tmp 27],zm 26 28,zy 29 26 0,zy 30 26 1,zm 11 29,zm 12 30]) (.ref 8)
def T53n10:XC:=.seq (.ops [zm 21 1,zc 22 66 [.tmp 21],zm 20 22,zy 23 20 0,zy 24 20 1,zy 25 20 2,zm 8 23,zm 9 24,zm 10 25]) (.ref 9)
def T53n11:XC:=.seq (.ops [zm 15 0,zc 16 66 [.tmp 15],zm 14 16,zy 17 14 0,zy 18 14 1,zy 19 14 2,zm 5 17,zm 6 18,zm 7 19]) (.ref 10)
def T53:Nat→XC
 | 0=>T53n0
 | 1=>T53n1
 | 2=>T53n2
 | 3=>T53n3
 | 4=>T53n4
 | 5=>T53n5
 | 6=>T53n6
 | 7=>T53n7
 | 8=>T53n8
 | 9=>T53n9
 | 10=>T53n10
 | 11=>T53n11
 | _=>.skip
theorem t53n0:T53 0=T53n0:=rfl
theorem t53n1:T53 1=T53n1:=rfl
theorem t53n2:T53 2=T53n2:=rfl
theorem t53n3:T53 3=T53n3:=rfl
theorem t53n4:T53 4=T53n4:=rfl
theorem t53n5:T53 5=T53n5:=rfl
theorem t53n6:T53 6=T53n6:=rfl
theorem t53n7:T53 7=T53n7:=rfl
theorem t53n8:T53 8=T53n8:=rfl
theorem t53n9:T53 9=T53n9:=rfl
theorem t53n10:T53 10=T53n10:=rfl
theorem t53n11:T53 11=T53n11:=rfl
def X53:XC:=.seq (.ops [zx 4 (.mov (.const (.bool false)))]) (.ref 11)
abbrev K53:List Nat:=[0,1,4,5,7,8,10,11,12,13,56,58,59,60,70]
theorem n53:Tryz.f53.ntmps=72:=by kernel_rfl
theorem r53:resT Tryz.f53.results.toList=some [4]:=by kernel_rfl
theorem x53:cmpF Tryz.prog Tryz.f53=some (expand T53 13 X53):=by kernel_rfl
attribute [go_sem] t12n0 t12n1 t12n2 t12n3 t12n4 t12n5 t12n6 t12n7 t12n8 t12n9 t12n10 t12n11 t12n12 t12n13 t12n14 t12n15 t12n16 t12n17 t12n18 T12n0 T12n1 T12n2 T12n3 T12n4 T12n5 T12n6 T12n7 T12n8 T12n9 T12n10 T12n11 T12n12 T12n13 T12n14 T12n15 T12n16 T12n17 T12n18 X12
attribute [go_sem] t25n0 T25n0 X25
attribute [go_sem] t53n0 t53n1 t53n2 t53n3 t53n4 t53n5 t53n6 t53n7 t53n8 t53n9 t53n10 t53n11 T53n0 T53n1 T53n2 T53n3 T53n4 T53n5 T53n6 T53n7 T53n8 T53n9 T53n10 T53n11 X53
end Go.Proofs.YtlbiogokpadaoaaGreatDoor
