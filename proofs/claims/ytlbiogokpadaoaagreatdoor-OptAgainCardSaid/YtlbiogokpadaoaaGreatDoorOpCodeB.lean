/- Printed by program: the small code of functions, and that it is theirs. -/
import Derived.Test.YtlbiogokpadaoaaGreatDoorSxStill
import Derived.Test.YtlbiogokpadaoaaGreatDoorProg
import Derived.KernelRfl
set_option linter.unusedSimpArgs false
set_option linter.unusedVariables false
set_option linter.unnecessarySimpa false
namespace Go.Proofs.YtlbiogokpadaoaaGreatDoor
open Go Go.Sx
set_option maxRecDepth 100000
theorem n12:Tryz.f12.ntmps=68:=by kernel_rfl
def T13n0:XC:=.seq (.ops [zm 18 3,zm 2 18]) .ret
def T13n1:XC:=.seq (.ops [zx 2 (.mov (.const (.bool false)))]) .ret
def T13n2:XC:=.seq (.ops [zx 2 (.mov (.const (.bool false)))]) .ret
def T13n3:XC:=.seq (.ops [zm 71 5,zm 72 9,zd 73 5 71 72,zi 74 73,zm 75 7,zm 76 9,zd 77 5 75 76,zi 78 77,zx 79 (.eqa true [.int .i64,.int .i64,.int .i64,.int .i64,.int .i64] (.tmp 74) (.tmp 78)),zm 80 79,zh 81 80 false 4,zg 82 80 false (.cmp .eql .i64 (.tmp 81) (.const (.int .i64 1))),zh 83 80 false 82,zh 84 83 true 5,zh 85 83 true 9,zg 86 83 true (.idx 5 (.tmp 84) (.tmp 85)),zg 87 83 true (.fld 0 (.tmp 86)),zg 88 83 true (.load [.int .i64] false (.tmp 87)),zh 89 83 true 0,zh 90 83 true 9,zg 91 83 true (.idx 5 (.tmp 89) (.tmp 90)),zg 92 83 true (.fld 0 (.tmp 91)),zg 93 83 true (.load [.int .i64] false (.tmp 92)),zg 94 83 true (.cmp .neq .i64 (.tmp 88) (.tmp 93)),zg 95 80 false (.pick (.tmp 83) (.tmp 94) (.const (.bool false))),zx 96 (.pick (.tmp 80) (.const (.bool true)) (.tmp 95))]) (.cond (.tmp 96) (.ref 2) .skip)
def T13n4:XC:=.seq (.blk 3 (.seq (.ops [zm 70 68,zm 9 70]) (.ref 3))) (.ops [zp 97 68,zm 68 97])
def T13n5:XC:=.seq (.cond (.tmp 69) .skip (.exit 2)) (.ref 4)
def T13n6:XC:=.seq (.ops [zk 69 .lss 68 67]) (.ref 5)
def T13n7:XC:=.seq (.ops [zm 66 5,ze 67 66,zx 68 (.mov (.const (.int .i64 0)))]) (.blk 2 (.loop (.ref 6)))
def T13n8:XC:=.seq (.seq (.ops [zm 35 6,zx 36 (.cmp .neq .i64 (.tmp 35) (.const (.int .i64 0))),zm 37 36,zh 38 37 false 8,zg 39 37 false (.cmp .neq .i64 (.tmp 38) (.const (.int .i64 0))),zx 40 (.pick (.tmp 37) (.const (.bool true)) (.tmp 39)),zm 41 40,zh 42 41 false 5,zg 43 41 false (.lenS (.tmp 42)),zh 44 41 false 7,zg 45 41 false (.lenS (.tmp 44)),zg 46 41 false (.cmp .neq .i64 (.tmp 43) (.tmp 45)),zx 47 (.pick (.tmp 41) (.const (.bool true)) (.tmp 46)),zm 48 47,zh 49 48 false 5,zg 50 48 false (.lenS (.tmp 49)),zh 51 48 false 0,zg 52 48 false (.lenS (.tmp 51)),zg 53 48 false (.cmp .gtr .i64 (.tmp 50) (.tmp 52)),zx 54 (.pick (.tmp 48) (.const (.bool true)) (.tmp 53)),zm 55 54,zh 56 55 false 4,zg 57 55 false (.cmp .eql .i64 (.tmp 56) (.const (.int .i64 1))),zh 58 55 false 57,zh 59 58 true 5,zg 60 58 true (.lenS (.tmp 59)),zh 61 58 true 0,zg 62 58 true (.lenS (.tmp 61)),zg 63 58 true (.cmp .neq .i64 (.tmp 60) (.tmp 62)),zg 64 55 false (.pick (.tmp 58) (.tmp 63) (.const (.bool false))),zx 65 (.pick (.tmp 55) (.const (.bool true)) (.tmp 64))]) (.cond (.tmp 65) (.ref 1) .skip)) (.ref 7)
def T13n9:XC:=.seq (.ops [zm 30 4,zm 31 5,zc 32 27 [.tmp 30,.tmp 31],zm 29 32,zy 33 29 0,zy 34 29 1,zm 7 33,zm 8 34]) (.ref 8)
def T13n10:XC:=.ops [zm 21 4,zp 22 21,zm 4 22]
def T13n11:XC:=.seq (.blk 1 (.seq (.ops [zm 24 4,zm 25 0,zc 26 27 [.tmp 24,.tmp 25],zm 23 26,zy 27 23 0,zy 28 23 1,zm 5 27,zm 6 28]) (.ref 9))) (.ref 10)
def T13n12:XC:=.seq (.seq (.ops [zm 19 4,zx 20 (.cmp .leq .i64 (.tmp 19) (.const (.int .i64 3)))]) (.cond (.tmp 20) .skip (.exit 0))) (.ref 11)
def T13n13:XC:=.seq (.ops [zm 98 3,zm 2 98]) .ret
def T13n14:XC:=.seq (.seq (.ops [zx 4 (.mov (.const (.int .i64 1)))]) (.blk 0 (.loop (.ref 12)))) (.ref 13)
def T13n15:XC:=.seq (.seq (.ops [zm 11 0,ze 12 11,zx 13 (.cmp .gtr .i64 (.tmp 12) (.const (.int .i64 200))),zm 14 13,zh 15 14 false 3,zg 16 14 false (.not (.tmp 15)),zx 17 (.pick (.tmp 14) (.const (.bool true)) (.tmp 16))]) (.cond (.tmp 17) (.ref 0) .skip)) (.ref 14)
def T13n16:XC:=.seq (.ops [zc 10 25 [],zm 3 10]) (.ref 15)
def T13:Nat→XC
 | 0=>T13n0
 | 1=>T13n1
 | 2=>T13n2
 | 3=>T13n3
 | 4=>T13n4
 | 5=>T13n5
 | 6=>T13n6
 | 7=>T13n7
 | 8=>T13n8
 | 9=>T13n9
 | 10=>T13n10
 | 11=>T13n11
 | 12=>T13n12
 | 13=>T13n13
 | 14=>T13n14
 | 15=>T13n15
 | 16=>T13n16
 | _=>.skip
theorem t13n0:T13 0=T13n0:=rfl
theorem t13n1:T13 1=T13n1:=rfl
theorem t13n2:T13 2=T13n2:=rfl
theorem t13n3:T13 3=T13n3:=rfl
theorem t13n4:T13 4=T13n4:=rfl
theorem t13n5:T13 5=T13n5:=rfl
theorem t13n6:T13 6=T13n6:=rfl
theorem t13n7:T13 7=T13n7:=rfl
theorem t13n8:T13 8=T13n8:=rfl
theorem t13n9:T13 9=T13n9:=rfl
theorem t13n10:T13 10=T13n10:=rfl
theorem t13n11:T13 11=T13n11:=rfl
theorem t13n12:T13 12=T13n12:=rfl
theorem t13n13:T13 13=T13n13:=rfl
theorem t13n14:T13 14=T13n14:=rfl
theorem t13n15:T13 15=T13n15:=rfl
theorem t13n16:T13 16=T13n16:=rfl
def X13:XC:=.seq (.ops [zx 2 (.mov (.const (.bool false)))]) (.ref 16)
abbrev K13:List Nat:=[0,2,3,4,5,6,7,8,9,17,20,65,67,68,69,96]
theorem n13:Tryz.f13.ntmps=99:=by kernel_rfl
theorem r13:resT Tryz.f13.results.toList=some [2]:=by kernel_rfl
theorem x13:cmpF Tryz.prog Tryz.f13=some (expand T13 18 X13):=by kernel_rfl
theorem n14:Tryz.f14.ntmps=67:=by kernel_rfl
def T25n0:XC:=.seq (.ops [.mk (some 1) none (.call 53 [.const (.string (ByteArray.mk (Array.mk [UInt8.ofNat 115,UInt8.ofNat 101,UInt8.ofNat 116,UInt8.ofNat 32,UInt8.ofNat 49,UInt8.ofNat 32,UInt8.ofNat 50,UInt8.ofNat 10,UInt8.ofNat 115,UInt8.ofNat 101,UInt8.ofNat 116,UInt8.ofNat 32,UInt8.ofNat 50,UInt8.ofNat 32,UInt8.ofNat 51,UInt8.ofNat 10,UInt8.ofNat 97,UInt8.ofNat 100,UInt8.ofNat 100,UInt8.ofNat 32,UInt8.ofNat 49,UInt8.ofNat 32,UInt8.ofNat 49,UInt8.ofNat 32,UInt8.ofNat 50,UInt8.ofNat 10,UInt8.ofNat 104,UInt8.ofNat 97,UInt8.ofNat 108,UInt8.ofNat 116]))),.const (.string (ByteArray.mk (Array.mk [UInt8.ofNat 115,UInt8.ofNat 101,UInt8.ofNat 116,UInt8.ofNat 32,UInt8.ofNat 49,UInt8.ofNat 32,UInt8.ofNat 50,UInt8.ofNat 10,UInt8.ofNat 115,UInt8.ofNat 101,UInt8.ofNat 116,UInt8.ofNat 32,UInt8.ofNat 50,UInt8.ofNat 32,UInt8.ofNat 51,UInt8.ofNat 10,UInt8.ofNat 115,UInt8.ofNat 101,UInt8.ofNat 116,UInt8.ofNat 32,UInt8.ofNat 49,UInt8.ofNat 32,UInt8.ofNat 53,UInt8.ofNat 10,UInt8.ofNat 104,UInt8.ofNat 97,UInt8.ofNat 108,UInt8.ofNat 116])))]),zm 2 1,.mk (some 3) (some (2,true)) (.call 53 [.const (.string (ByteArray.mk (Array.mk [UInt8.ofNat 106,UInt8.ofNat 117,UInt8.ofNat 109,UInt8.ofNat 112,UInt8.ofNat 32,UInt8.ofNat 50,UInt8.ofNat 10,UInt8.ofNat 104,UInt8.ofNat 97,UInt8.ofNat 108,UInt8.ofNat 116,UInt8.ofNat 10,UInt8.ofNat 106,UInt8.ofNat 117,UInt8.ofNat 109,UInt8.ofNat 112,UInt8.ofNat 32,UInt8.ofNat 51,UInt8.ofNat 10,UInt8.ofNat 115,UInt8.ofNat 101,UInt8.ofNat 116,UInt8.ofNat 32,UInt8.ofNat 49,UInt8.ofNat 32,UInt8.ofNat 49]))),.const (.string (ByteArray.mk (Array.mk [UInt8.ofNat 115,UInt8.ofNat 101,UInt8.ofNat 116,UInt8.ofNat 32,UInt8.ofNat 49,UInt8.ofNat 32,UInt8.ofNat 49])))]),zx 4 (.pick (.tmp 2) (.tmp 3) (.const (.bool false))),zm 0 4]) .ret
def T25:Nat→XC
 | 0=>T25n0
 | _=>.skip
theorem t25n0:T25 0=T25n0:=rfl
def X25:XC:=.seq (.ops [zx 0 (.mov (.const (.bool false)))]) (.ref 0)
abbrev K25:List Nat:=[0]
theorem n25:Tryz.f25.ntmps=5:=by kernel_rfl
theorem r25:resT Tryz.f25.results.toList=some [0]:=by kernel_rfl
theorem x25:cmpF Tryz.prog Tryz.f25=some (expand T25 2 X25):=by kernel_rfl
def T53n0:XC:=.seq (.ops [zx 4 (.mov (.const (.bool false)))]) .ret
def T53n1:XC:=.seq (.ops [zx 4 (.mov (.const (.bool false)))]) .ret
def T53n2:XC:=.seq (.ops [zm 62 8,zm 63 13,zd 64 5 62 63,zi 65 64,zm 66 11,zm 67 13,zd 68 5 66 67,zi 69 68,zx 70 (.eqa true [.int .i64,.int .i64,.int .i64,.int .i64,.int .i64] (.tmp 65) (.tmp 69))]) (.cond (.tmp 70) (.ref 1) .skip)
def T53n3:XC:=.seq (.blk 1 (.seq (.ops [zm 61 59,zm 13 61]) (.ref 2))) (.ops [zp 71 59,zm 59 71])
def T53n4:XC:=.seq (.cond (.tmp 60) .skip (.exit 0)) (.ref 3)
def T53n5:XC:=.seq (.ops [zk 60 .lss 59 58]) (.ref 4)
def T53n6:XC:=.seq (.ops [zx 4 (.mov (.const (.bool true)))]) .ret
def T53n7:XC:=.seq (.seq (.ops [zm 57 8,ze 58 57,zx 59 (.mov (.const (.int .i64 0)))]) (.blk 0 (.loop (.ref 5)))) (.ref 6)
def T53n8:XC:=.seq (.seq (.ops [zm 31 7,zx 32 (.cmp .neq .i64 (.tmp 31) (.const (.int .i64 0))),zm 33 32,zh 34 33 false 10,zg 35 33 false (.cmp .neq .i64 (.tmp 34) (.const (.int .i64 0))),zx 36 (.pick (.tmp 33) (.const (.bool true)) (.tmp 35)),zm 37 36,zh 38 37 false 12,zg 39 37 false (.cmp .neq .i64 (.tmp 38) (.const (.int .i64 0))),zx 40 (.pick (.tmp 37) (.const (.bool true)) (.tmp 39)),zm 41 40,zh 42 41 false 8,zg 43 41 false (.lenS (.tmp 42)),zh 44 41 false 11,zg 45 41 false (.lenS (.tmp 44)),zg 46 41 false (.cmp .neq .i64 (.tmp 43) (.tmp 45)),zx 47 (.pick (.tmp 41) (.const (.bool true)) (.tmp 46)),zm 48 47,zh 49 48 false 1,zg 50 48 false (.eqs .neq (.tmp 49) (.const (.string (ByteArray.mk (Array.mk []))))),zh 51 48 false 50,zh 52 51 true 8,zg 53 51 true (.lenS (.tmp 52)),zg 54 51 true (.cmp .eql .i64 (.tmp 53) (.const (.int .i64 0))),zg 55 48 false (.pick (.tmp 51) (.tmp 54) (.const (.bool false))),zx 56 (.pick (.tmp 48) (.const (.bool true)) (.tmp 55))]) (.cond (.tmp 56) (.ref 0) .skip)) (.ref 7)
def T53n9:XC:=.seq (.ops [zm 27 5,zc 28 26 [.tmp 27],zm 26 28,zy 29 26 0,zy 30 26 1,zm 11 29,zm 12 30]) (.ref 8)
def T53n10:XC:=.seq (.ops [zm 21 1,zc 22 66 [.tmp 21],zm 20 22,zy 23 20 0,zy 24 20 1,zy 25 20 2,zm 8 23,zm 9 24,zm 10 25]) (.ref 9)
def T53n11:XC:=.seq (.ops [zm 15 0,zc 16 66 [.tmp 15],zm 14 16,zy 17 14 0,zy 18 14 1,zy 19 14 2,zm 5 17,zm 6 18,zm 7 19]) (.ref 10)
def T53:Nat→XC
 | 0=>T53n0
 | 1=>T53n1
 | 2=>T53n2
 | 3=>T53n3
 | 4=>T53n4
 | 5=>T53n5
 | 6=>T53n6
 | 7=>T53n7
 | 8=>T53n8
 | 9=>T53n9
 | 10=>T53n10
 | 11=>T53n11
 | _=>.skip
theorem t53n0:T53 0=T53n0:=rfl
theorem t53n1:T53 1=T53n1:=rfl
theorem t53n2:T53 2=T53n2:=rfl
theorem t53n3:T53 3=T53n3:=rfl
theorem t53n4:T53 4=T53n4:=rfl
theorem t53n5:T53 5=T53n5:=rfl
theorem t53n6:T53 6=T53n6:=rfl
theorem t53n7:T53 7=T53n7:=rfl
theorem t53n8:T53 8=T53n8:=rfl
theorem t53n9:T53 9=T53n9:=rfl
theorem t53n10:T53 10=T53n10:=rfl
theorem t53n11:T53 11=T53n11:=rfl
def X53:XC:=.seq (.ops [zx 4 (.mov (.const (.bool false)))]) (.ref 11)
abbrev K53:List Nat:=[0,1,4,5,7,8,10,11,12,13,56,58,59,60,70]
theorem n53:Tryz.f53.ntmps=72:=by kernel_rfl
theorem r53:resT Tryz.f53.results.toList=some [4]:=by kernel_rfl
theorem x53:cmpF Tryz.prog Tryz.f53=some (expand T53 13 X53):=by kernel_rfl
attribute [go_sem] t13n0 t13n1 t13n2 t13n3 t13n4 t13n5 t13n6 t13n7 t13n8 t13n9 t13n10 t13n11 t13n12 t13n13 t13n14 t13n15 t13n16 T13n0 T13n1 T13n2 T13n3 T13n4 T13n5 T13n6 T13n7 T13n8 T13n9 T13n10 T13n11 T13n12 T13n13 T13n14 T13n15 T13n16 X13
attribute [go_sem] t25n0 T25n0 X25
attribute [go_sem] t53n0 t53n1 t53n2 t53n3 t53n4 t53n5 t53n6 t53n7 t53n8 t53n9 t53n10 t53n11 T53n0 T53n1 T53n2 T53n3 T53n4 T53n5 T53n6 T53n7 T53n8 T53n9 T53n10 T53n11 X53
end Go.Proofs.YtlbiogokpadaoaaGreatDoor
