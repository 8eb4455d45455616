/- Printed by program: the small code of functions, and that it is theirs. -/
import Derived.Test.YtaiajnehnjnadaaGreatDoorSxStill
import Derived.Test.YtaiajnehnjnadaaGreatDoorProg
import Derived.KernelRfl
set_option linter.unusedSimpArgs false
set_option linter.unusedVariables false
set_option linter.unnecessarySimpa false
namespace Go.Proofs.YtaiajnehnjnadaaGreatDoor
open Go Go.Sx
set_option maxRecDepth 100000
def T6n0:XC:=.seq (.ops [zm 41 6,zm 42 10,zm 43 9,zm 44 6,zm 45 11,zd 46 2 44 45,zf 47 0 46,zl 48 47,zc 49 13 [.tmp 41,.tmp 42,.tmp 43,.tmp 48],zy 50 49 0,zy 51 49 1,zy 52 49 2,zy 53 49 3,zm 2 50,zm 3 51,zm 4 52,zm 5 53]) .ret
def T6n1:XC:=.seq (.ops [zm 54 8,zm 55 12,zm 56 7,ze 57 56,zx 58 (.build [.string (ByteArray.mk (Array.mk [])),.int .i64 0] [(0,1,.tmp 55),(1,1,.tmp 57)]),zx 59 (.buildS 35 1 2 [.string (ByteArray.mk (Array.mk [])),.int .i64 0] [(0,.tmp 58)]),zx 60 (.app 35 2 24 (.tmp 54) (.tmp 59)),zm 8 60]) (.exit 1)
def T6n2:XC:=.seq (.seq (.ops [zm 37 8,zm 38 12,zc 39 12 [.tmp 37,.tmp 38],zx 40 (.cmp .geq .i64 (.tmp 39) (.const (.int .i64 0)))]) (.cond (.tmp 40) (.ref 0) .skip)) (.ref 1)
def T6n3:XC:=.seq (.ops [zm 78 6,zm 79 10,zm 80 9,zm 81 6,zm 82 11,zd 83 2 81 82,zf 84 0 83,zl 85 84,zc 86 13 [.tmp 78,.tmp 79,.tmp 80,.tmp 85],zy 87 86 0,zy 88 86 1,zy 89 86 2,zy 90 86 3,zm 2 87,zm 3 88,zm 4 89,zm 5 90]) .ret
def T6n4:XC:=.ops [zm 99 10,zm 100 6,zm 101 11,zd 102 2 100 101,zf 103 0 102,zl 104 103,zx 105 (.buildS 3 1 1 [.int .i64 0] [(0,.tmp 104)]),zx 106 (.app 3 1 8 (.tmp 99) (.tmp 105)),zm 10 106]
def T6n5:XC:=.seq (.ops [zm 95 9,zm 96 15,zx 97 (.buildS 9 1 1 [.string (ByteArray.mk (Array.mk []))] [(0,.tmp 96)]),zx 98 (.app 9 1 16 (.tmp 95) (.tmp 97)),zm 9 98]) (.ref 4)
def T6n6:XC:=.seq (.ops [zm 91 7,zi 92 14,zx 93 (.buildS 43 1 5 [.int .i64 0,.int .i64 0,.int .i64 0,.int .i64 0,.int .i64 0] [(0,.tmp 92)]),zx 94 (.app 43 5 40 (.tmp 91) (.tmp 93)),zm 7 94]) (.ref 5)
def T6n7:XC:=.seq (.seq (.ops [zm 71 16,zx 72 (.not (.tmp 71)),zm 73 72,zh 74 73 false 7,zg 75 73 false (.lenS (.tmp 74)),zg 76 73 false (.cmp .geq .i64 (.tmp 75) (.const (.int .i64 1024))),zx 77 (.pick (.tmp 73) (.const (.bool true)) (.tmp 76))]) (.cond (.tmp 77) (.ref 3) .skip)) (.ref 6)
def T6n8:XC:=.seq (.ops [zm 62 6,zm 63 11,zd 64 2 62 63,zf 65 1 64,zx 66 (.load [.str] false (.tmp 65)),zc 67 14 [.tmp 66],zm 61 67,zy 68 61 0,zy 69 61 1,zy 70 61 2,zx 14 (.alloc 43 [.int .i64 0,.int .i64 0,.int .i64 0,.int .i64 0,.int .i64 0]),zn (.store 5 (.tmp 14) (.tmp 68)),zm 15 69,zm 16 70]) (.ref 7)
def T6n9:XC:=.seq (.seq (.ops [zm 36 13]) (.cond (.tmp 36) (.ref 2) .skip)) (.ref 8)
def T6n10:XC:=.ops [zm 25 11,zp 26 25,zm 11 26]
def T6n11:XC:=.seq (.blk 1 (.seq (.ops [zm 28 6,zm 29 11,zd 30 2 28 29,zf 31 1 30,zx 32 (.load [.str] false (.tmp 31)),zc 33 11 [.tmp 32],zm 27 33,zy 34 27 0,zy 35 27 1,zm 12 34,zm 13 35]) (.ref 9))) (.ref 10)
def T6n12:XC:=.seq (.seq (.ops [zm 21 11,zm 22 6,ze 23 22,zk 24 .lss 21 23]) (.cond (.tmp 24) .skip (.exit 0))) (.ref 11)
def T6n13:XC:=.seq (.ops [zm 126 10,zm 127 17,zd 128 1 126 127,zl 129 128,zx 2 (.mov (.const (.slice none 0 0))),zx 3 (.mov (.const (.slice none 0 0))),zm 4 129,zx 5 (.mov (.const (.int .i64 150)))]) .ret
def T6n14:XC:=.ops [zm 130 7,zm 131 17,zm 132 8,zm 133 18,zd 134 2 132 133,zf 135 1 134,zl 136 135,zd 137 5 130 131,zf 138 4 137,zn (.store 1 (.tmp 138) (.tmp 136))]
def T6n15:XC:=.seq (.seq (.ops [zm 124 18,zx 125 (.cmp .lss .i64 (.tmp 124) (.const (.int .i64 0)))]) (.cond (.tmp 125) (.ref 13) .skip)) (.ref 14)
def T6n16:XC:=.seq (.ops [zm 118 8,zm 119 9,zm 120 17,zd 121 1 119 120,zx 122 (.load [.str] false (.tmp 121)),zc 123 12 [.tmp 118,.tmp 122],zm 18 123]) (.ref 15)
def T6n17:XC:=.ops [zm 111 17,zp 112 111,zm 17 112]
def T6n18:XC:=.seq (.blk 3 (.seq (.ops [zm 113 9,zm 114 17,zd 115 1 113 114,zx 116 (.load [.str] false (.tmp 115)),zx 117 (.eqs .neq (.tmp 116) (.const (.string (ByteArray.mk (Array.mk [])))))]) (.cond (.tmp 117) (.ref 16) .skip))) (.ref 17)
def T6n19:XC:=.seq (.seq (.ops [zm 107 17,zm 108 7,ze 109 108,zk 110 .lss 107 109]) (.cond (.tmp 110) .skip (.exit 2))) (.ref 18)
def T6n20:XC:=.seq (.ops [zm 139 7,zm 140 8,zm 2 139,zm 3 140,zx 4 (.mov (.const (.int .i64 0))),zx 5 (.mov (.const (.int .i64 0)))]) .ret
def T6n21:XC:=.seq (.seq (.ops [zx 17 (.mov (.const (.int .i64 0)))]) (.blk 2 (.loop (.ref 19)))) (.ref 20)
def T6n22:XC:=.seq (.seq (.ops [zx 11 (.mov (.const (.int .i64 0)))]) (.blk 0 (.loop (.ref 12)))) (.ref 21)
def T6n23:XC:=.seq (.ops [zx 10 (.mov (.const (.slice none 0 0)))]) (.ref 22)
def T6n24:XC:=.seq (.ops [zx 9 (.mov (.const (.slice none 0 0)))]) (.ref 23)
def T6n25:XC:=.seq (.ops [zx 8 (.mov (.const (.slice none 0 0)))]) (.ref 24)
def T6n26:XC:=.seq (.ops [zx 7 (.mov (.const (.slice none 0 0)))]) (.ref 25)
def T6n27:XC:=.seq (.ops [zm 19 0,zc 20 10 [.tmp 19],zm 6 20]) (.ref 26)
def T6:Nat→XC
 | 0=>T6n0
 | 1=>T6n1
 | 2=>T6n2
 | 3=>T6n3
 | 4=>T6n4
 | 5=>T6n5
 | 6=>T6n6
 | 7=>T6n7
 | 8=>T6n8
 | 9=>T6n9
 | 10=>T6n10
 | 11=>T6n11
 | 12=>T6n12
 | 13=>T6n13
 | 14=>T6n14
 | 15=>T6n15
 | 16=>T6n16
 | 17=>T6n17
 | 18=>T6n18
 | 19=>T6n19
 | 20=>T6n20
 | 21=>T6n21
 | 22=>T6n22
 | 23=>T6n23
 | 24=>T6n24
 | 25=>T6n25
 | 26=>T6n26
 | 27=>T6n27
 | _=>.skip
theorem t6n0:T6 0=T6n0:=rfl
theorem t6n1:T6 1=T6n1:=rfl
theorem t6n2:T6 2=T6n2:=rfl
theorem t6n3:T6 3=T6n3:=rfl
theorem t6n4:T6 4=T6n4:=rfl
theorem t6n5:T6 5=T6n5:=rfl
theorem t6n6:T6 6=T6n6:=rfl
theorem t6n7:T6 7=T6n7:=rfl
theorem t6n8:T6 8=T6n8:=rfl
theorem t6n9:T6 9=T6n9:=rfl
theorem t6n10:T6 10=T6n10:=rfl
theorem t6n11:T6 11=T6n11:=rfl
theorem t6n12:T6 12=T6n12:=rfl
theorem t6n13:T6 13=T6n13:=rfl
theorem t6n14:T6 14=T6n14:=rfl
theorem t6n15:T6 15=T6n15:=rfl
theorem t6n16:T6 16=T6n16:=rfl
theorem t6n17:T6 17=T6n17:=rfl
theorem t6n18:T6 18=T6n18:=rfl
theorem t6n19:T6 19=T6n19:=rfl
theorem t6n20:T6 20=T6n20:=rfl
theorem t6n21:T6 21=T6n21:=rfl
theorem t6n22:T6 22=T6n22:=rfl
theorem t6n23:T6 23=T6n23:=rfl
theorem t6n24:T6 24=T6n24:=rfl
theorem t6n25:T6 25=T6n25:=rfl
theorem t6n26:T6 26=T6n26:=rfl
theorem t6n27:T6 27=T6n27:=rfl
def X6:XC:=.seq (.ops [zx 2 (.mov (.const (.slice none 0 0))),zx 3 (.mov (.const (.slice none 0 0))),zx 4 (.mov (.const (.int .i64 0))),zx 5 (.mov (.const (.int .i64 0)))]) (.ref 27)
abbrev K6:List Nat:=[0,2,3,4,5,6,7,8,9,10,11,12,13,14,15,16,17,18,24,36,40,77,110,117,125]
theorem n6:Tryz.f6.ntmps=141:=by kernel_rfl
theorem r6:resT Tryz.f6.results.toList=some [2,3,4,5]:=by kernel_rfl
theorem x6:cmpF Tryz.prog Tryz.f6=some (expand T6 29 X6):=by kernel_rfl
def T10n0:XC:=.ops [zm 39 7,zm 40 8,zx 41 (.subT (.tmp 39) none (some (.tmp 40))),zm 7 41]
def T10n1:XC:=.ops [zm 33 8,zp 34 33,zm 8 34]
def T10n2:XC:=.seq (.blk 3 (.seq (.ops [zm 35 7,zm 36 8,zx 37 (.ixT (.tmp 35) (.tmp 36)),zx 38 (.cmp .eql .u8 (.tmp 37) (.const (.int .u8 59)))]) (.cond (.tmp 38) (.ref 0) .skip))) (.ref 1)
def T10n3:XC:=.seq (.seq (.ops [zm 29 8,zm 30 7,zx 31 (.lenT (.tmp 30)),zk 32 .lss 29 31]) (.cond (.tmp 32) .skip (.exit 2))) (.ref 2)
def T10n4:XC:=.blk 5 (.ops [zm 55 7,zx 56 (.subT (.tmp 55) (some (.const (.int .i64 1))) none),zm 7 56])
def T10n5:XC:=.seq (.seq (.ops [zm 42 7,zx 43 (.lenT (.tmp 42)),zx 44 (.cmp .gtr .i64 (.tmp 43) (.const (.int .i64 0))),zm 45 44,zh 46 45 true 7,zg 47 45 true (.ixT (.tmp 46) (.const (.int .i64 0))),zg 48 45 true (.cmp .eql .u8 (.tmp 47) (.const (.int .u8 32))),zh 49 45 true 48,zh 50 49 false 7,zg 51 49 false (.ixT (.tmp 50) (.const (.int .i64 0))),zg 52 49 false (.cmp .eql .u8 (.tmp 51) (.const (.int .u8 9))),zg 53 45 true (.pick (.tmp 49) (.const (.bool true)) (.tmp 52)),zx 54 (.pick (.tmp 45) (.tmp 53) (.const (.bool false)))]) (.cond (.tmp 54) .skip (.exit 4))) (.ref 4)
def T10n6:XC:=.blk 7 (.ops [zm 76 7,zm 77 7,zx 78 (.lenT (.tmp 77)),zx 79 (.arith .sub .i64 (.tmp 78) (.const (.int .i64 1))),zx 80 (.subT (.tmp 76) none (some (.tmp 79))),zm 7 80])
def T10n7:XC:=.seq (.seq (.ops [zm 57 7,zx 58 (.lenT (.tmp 57)),zx 59 (.cmp .gtr .i64 (.tmp 58) (.const (.int .i64 0))),zm 60 59,zh 61 60 true 7,zh 62 60 true 7,zg 63 60 true (.lenT (.tmp 62)),zg 64 60 true (.arith .sub .i64 (.tmp 63) (.const (.int .i64 1))),zg 65 60 true (.ixT (.tmp 61) (.tmp 64)),zg 66 60 true (.cmp .eql .u8 (.tmp 65) (.const (.int .u8 32))),zh 67 60 true 66,zh 68 67 false 7,zh 69 67 false 7,zg 70 67 false (.lenT (.tmp 69)),zg 71 67 false (.arith .sub .i64 (.tmp 70) (.const (.int .i64 1))),zg 72 67 false (.ixT (.tmp 68) (.tmp 71)),zg 73 67 false (.cmp .eql .u8 (.tmp 72) (.const (.int .u8 9))),zg 74 60 true (.pick (.tmp 67) (.const (.bool true)) (.tmp 73)),zx 75 (.pick (.tmp 60) (.tmp 74) (.const (.bool false)))]) (.cond (.tmp 75) .skip (.exit 6))) (.ref 6)
def T10n8:XC:=.ops [zm 84 3,zm 85 4,zm 86 7,zx 87 (.build [.int .i64 0,.string (ByteArray.mk (Array.mk []))] [(0,1,.tmp 85),(1,1,.tmp 86)]),zx 88 (.buildS 53 1 2 [.int .i64 0,.string (ByteArray.mk (Array.mk []))] [(0,.tmp 87)]),zx 89 (.app 53 2 24 (.tmp 84) (.tmp 88)),zm 3 89]
def T10n9:XC:=.ops [zm 92 6,zp 93 92,zm 5 93]
def T10n10:XC:=.seq (.ops [zm 90 4,zp 91 90,zm 4 91]) (.ref 9)
def T10n11:XC:=.seq (.seq (.ops [zm 81 7,zx 82 (.lenT (.tmp 81)),zx 83 (.cmp .gtr .i64 (.tmp 82) (.const (.int .i64 0)))]) (.cond (.tmp 83) (.ref 8) .skip)) (.ref 10)
def T10n12:XC:=.seq (.blk 6 (.loop (.ref 7))) (.ref 11)
def T10n13:XC:=.seq (.blk 4 (.loop (.ref 5))) (.ref 12)
def T10n14:XC:=.seq (.seq (.ops [zx 8 (.mov (.const (.int .i64 0)))]) (.blk 2 (.loop (.ref 3)))) (.ref 13)
def T10n15:XC:=.seq (.ops [zm 25 0,zm 26 5,zm 27 6,zx 28 (.subT (.tmp 25) (some (.tmp 26)) (some (.tmp 27))),zm 7 28]) (.ref 14)
def T10n16:XC:=.ops [zm 13 6,zp 14 13,zm 6 14]
def T10n17:XC:=.seq (.blk 1 (.seq (.seq (.ops [zm 15 6,zm 16 0,zx 17 (.lenT (.tmp 16)),zk 18 .lss 15 17,zm 19 18,zh 20 19 true 0,zh 21 19 true 6,zg 22 19 true (.ixT (.tmp 20) (.tmp 21)),zg 23 19 true (.cmp .neq .u8 (.tmp 22) (.const (.int .u8 10))),zx 24 (.pick (.tmp 19) (.tmp 23) (.const (.bool false)))]) (.cond (.tmp 24) (.exit 1) .skip)) (.ref 15))) (.ref 16)
def T10n18:XC:=.seq (.seq (.ops [zm 9 6,zm 10 0,zx 11 (.lenT (.tmp 10)),zk 12 .leq 9 11]) (.cond (.tmp 12) .skip (.exit 0))) (.ref 17)
def T10n19:XC:=.seq (.ops [zm 94 3,zm 2 94]) .ret
def T10n20:XC:=.seq (.seq (.ops [zx 6 (.mov (.const (.int .i64 0)))]) (.blk 0 (.loop (.ref 18)))) (.ref 19)
def T10n21:XC:=.seq (.ops [zx 5 (.mov (.const (.int .i64 0)))]) (.ref 20)
def T10n22:XC:=.seq (.ops [zx 4 (.mov (.const (.int .i64 1)))]) (.ref 21)
def T10n23:XC:=.seq (.ops [zx 3 (.mov (.const (.slice none 0 0)))]) (.ref 22)
def T10:Nat→XC
 | 0=>T10n0
 | 1=>T10n1
 | 2=>T10n2
 | 3=>T10n3
 | 4=>T10n4
 | 5=>T10n5
 | 6=>T10n6
 | 7=>T10n7
 | 8=>T10n8
 | 9=>T10n9
 | 10=>T10n10
 | 11=>T10n11
 | 12=>T10n12
 | 13=>T10n13
 | 14=>T10n14
 | 15=>T10n15
 | 16=>T10n16
 | 17=>T10n17
 | 18=>T10n18
 | 19=>T10n19
 | 20=>T10n20
 | 21=>T10n21
 | 22=>T10n22
 | 23=>T10n23
 | _=>.skip
theorem t10n0:T10 0=T10n0:=rfl
theorem t10n1:T10 1=T10n1:=rfl
theorem t10n2:T10 2=T10n2:=rfl
theorem t10n3:T10 3=T10n3:=rfl
theorem t10n4:T10 4=T10n4:=rfl
theorem t10n5:T10 5=T10n5:=rfl
theorem t10n6:T10 6=T10n6:=rfl
theorem t10n7:T10 7=T10n7:=rfl
theorem t10n8:T10 8=T10n8:=rfl
theorem t10n9:T10 9=T10n9:=rfl
theorem t10n10:T10 10=T10n10:=rfl
theorem t10n11:T10 11=T10n11:=rfl
theorem t10n12:T10 12=T10n12:=rfl
theorem t10n13:T10 13=T10n13:=rfl
theorem t10n14:T10 14=T10n14:=rfl
theorem t10n15:T10 15=T10n15:=rfl
theorem t10n16:T10 16=T10n16:=rfl
theorem t10n17:T10 17=T10n17:=rfl
theorem t10n18:T10 18=T10n18:=rfl
theorem t10n19:T10 19=T10n19:=rfl
theorem t10n20:T10 20=T10n20:=rfl
theorem t10n21:T10 21=T10n21:=rfl
theorem t10n22:T10 22=T10n22:=rfl
theorem t10n23:T10 23=T10n23:=rfl
def X10:XC:=.seq (.ops [zx 2 (.mov (.const (.slice none 0 0)))]) (.ref 23)
abbrev K10:List Nat:=[0,2,3,4,5,6,7,8,12,24,32,38,54,75,83]
theorem n10:Tryz.f10.ntmps=95:=by kernel_rfl
theorem r10:resT Tryz.f10.results.toList=some [2]:=by kernel_rfl
theorem x10:cmpF Tryz.prog Tryz.f10=some (expand T10 25 X10):=by kernel_rfl
def T11n0:XC:=.seq (.ops [zx 2 (.mov (.const (.string (ByteArray.mk (Array.mk []))))),zx 3 (.mov (.const (.bool false)))]) .ret
def T11n1:XC:=.seq (.ops [zm 21 0,zm 22 4,zx 23 (.subT (.tmp 21) none (some (.tmp 22))),zm 24 5,zm 2 23,zm 3 24]) .ret
def T11n2:XC:=.seq (.ops [zm 17 0,zm 18 4,zx 19 (.subT (.tmp 17) none (some (.tmp 18))),zc 20 20 [.tmp 19],zm 5 20]) (.ref 1)
def T11n3:XC:=.seq (.seq (.ops [zm 9 4,zx 10 (.cmp .lss .i64 (.tmp 9) (.const (.int .i64 0))),zm 11 10,zh 12 11 false 0,zh 13 11 false 4,zg 14 11 false (.ixT (.tmp 12) (.tmp 13)),zg 15 11 false (.cmp .neq .u8 (.tmp 14) (.const (.int .u8 58))),zx 16 (.pick (.tmp 11) (.const (.bool true)) (.tmp 15))]) (.cond (.tmp 16) (.ref 0) .skip)) (.ref 2)
def T11n4:XC:=.seq (.ops [zm 6 0,zx 7 (.lenT (.tmp 6)),zx 8 (.arith .sub .i64 (.tmp 7) (.const (.int .i64 1))),zm 4 8]) (.ref 3)
def T11:Nat→XC
 | 0=>T11n0
 | 1=>T11n1
 | 2=>T11n2
 | 3=>T11n3
 | 4=>T11n4
 | _=>.skip
theorem t11n0:T11 0=T11n0:=rfl
theorem t11n1:T11 1=T11n1:=rfl
theorem t11n2:T11 2=T11n2:=rfl
theorem t11n3:T11 3=T11n3:=rfl
theorem t11n4:T11 4=T11n4:=rfl
def X11:XC:=.seq (.ops [zx 2 (.mov (.const (.string (ByteArray.mk (Array.mk []))))),zx 3 (.mov (.const (.bool false)))]) (.ref 4)
abbrev K11:List Nat:=[0,2,3,4,5,16]
theorem n11:Tryz.f11.ntmps=25:=by kernel_rfl
theorem r11:resT Tryz.f11.results.toList=some [2,3]:=by kernel_rfl
theorem x11:cmpF Tryz.prog Tryz.f11=some (expand T11 6 X11):=by kernel_rfl
def T12n0:XC:=.seq (.ops [zm 19 5,zm 4 19]) .ret
def T12n1:XC:=.ops [zm 10 5,zp 11 10,zm 5 11]
def T12n2:XC:=.seq (.blk 1 (.seq (.ops [zm 12 0,zm 13 5,zd 14 2 12 13,zf 15 0 14,zx 16 (.load [.str] false (.tmp 15)),zm 17 1,zx 18 (.eqs .eql (.tmp 16) (.tmp 17))]) (.cond (.tmp 18) (.ref 0) .skip))) (.ref 1)
def T12n3:XC:=.seq (.seq (.ops [zm 6 5,zm 7 0,ze 8 7,zk 9 .lss 6 8]) (.cond (.tmp 9) .skip (.exit 0))) (.ref 2)
def T12n4:XC:=.seq (.ops [zx 4 (.mov (.const (.int .i64 (-1))))]) .ret
def T12n5:XC:=.seq (.seq (.ops [zx 5 (.mov (.const (.int .i64 0)))]) (.blk 0 (.loop (.ref 3)))) (.ref 4)
def T12:Nat→XC
 | 0=>T12n0
 | 1=>T12n1
 | 2=>T12n2
 | 3=>T12n3
 | 4=>T12n4
 | 5=>T12n5
 | _=>.skip
theorem t12n0:T12 0=T12n0:=rfl
theorem t12n1:T12 1=T12n1:=rfl
theorem t12n2:T12 2=T12n2:=rfl
theorem t12n3:T12 3=T12n3:=rfl
theorem t12n4:T12 4=T12n4:=rfl
theorem t12n5:T12 5=T12n5:=rfl
def X12:XC:=.seq (.ops [zx 4 (.mov (.const (.int .i64 0)))]) (.ref 5)
abbrev K12:List Nat:=[0,1,4,5,9,18]
theorem n12:Tryz.f12.ntmps=20:=by kernel_rfl
theorem r12:resT Tryz.f12.results.toList=some [4]:=by kernel_rfl
theorem x12:cmpF Tryz.prog Tryz.f12=some (expand T12 7 X12):=by kernel_rfl
def T13n0:XC:=.ops [zm 47 16,zm 48 47,zh 49 48 true 15,zh 50 48 true 2,zh 51 48 true 12,zg 52 48 true (.idx 1 (.tmp 50) (.tmp 51)),zg 53 48 true (.load [.str] false (.tmp 52)),zg 54 48 true (.eqs .eql (.tmp 49) (.tmp 53)),zx 55 (.pick (.tmp 48) (.tmp 54) (.const (.bool false))),zm 13 55]
def T13n1:XC:=.ops [zm 36 14,zp 37 36,zm 14 37]
def T13n2:XC:=.seq (.blk 3 (.seq (.ops [zm 39 0,zm 40 14,zd 41 2 39 40,zf 42 1 41,zx 43 (.load [.str] false (.tmp 42)),zc 44 11 [.tmp 43],zm 38 44,zy 45 38 0,zy 46 38 1,zm 15 45,zm 16 46]) (.ref 0))) (.ref 1)
def T13n3:XC:=.seq (.seq (.ops [zm 28 14,zm 29 0,ze 30 29,zk 31 .lss 28 30,zm 32 31,zh 33 32 true 13,zg 34 32 true (.not (.tmp 33)),zx 35 (.pick (.tmp 32) (.tmp 34) (.const (.bool false)))]) (.cond (.tmp 35) .skip (.exit 2))) (.ref 2)
def T13n4:XC:=.seq (.ops [zm 58 1,zm 59 12,zd 60 1 58 59,zl 61 60,zx 8 (.mov (.const (.slice none 0 0))),zx 9 (.mov (.const (.slice none 0 0))),zm 10 61,zx 11 (.mov (.const (.int .i64 150)))]) .ret
def T13n5:XC:=.seq (.ops [zm 56 13,zx 57 (.not (.tmp 56))]) (.cond (.tmp 57) (.ref 4) .skip)
def T13n6:XC:=.seq (.seq (.ops [zx 14 (.mov (.const (.int .i64 0)))]) (.blk 2 (.loop (.ref 3)))) (.ref 5)
def T13n7:XC:=.ops [zm 21 12,zp 22 21,zm 12 22]
def T13n8:XC:=.seq (.blk 1 (.seq (.ops [zm 23 2,zm 24 12,zd 25 1 23 24,zx 26 (.load [.str] false (.tmp 25)),zx 27 (.eqs .eql (.tmp 26) (.const (.string (ByteArray.mk (Array.mk []))))),zm 13 27]) (.ref 6))) (.ref 7)
def T13n9:XC:=.seq (.seq (.ops [zm 17 12,zm 18 2,ze 19 18,zk 20 .lss 17 19]) (.cond (.tmp 20) .skip (.exit 0))) (.ref 8)
def T13n10:XC:=.seq (.ops [zm 62 3,zx 8 (.mov (.const (.slice none 0 0))),zx 9 (.mov (.const (.slice none 0 0))),zm 10 62,zx 11 (.mov (.const (.int .i64 150)))]) .ret
def T13n11:XC:=.seq (.seq (.ops [zx 12 (.mov (.const (.int .i64 0)))]) (.blk 0 (.loop (.ref 9)))) (.ref 10)
def T13:Nat→XC
 | 0=>T13n0
 | 1=>T13n1
 | 2=>T13n2
 | 3=>T13n3
 | 4=>T13n4
 | 5=>T13n5
 | 6=>T13n6
 | 7=>T13n7
 | 8=>T13n8
 | 9=>T13n9
 | 10=>T13n10
 | 11=>T13n11
 | _=>.skip
theorem t13n0:T13 0=T13n0:=rfl
theorem t13n1:T13 1=T13n1:=rfl
theorem t13n2:T13 2=T13n2:=rfl
theorem t13n3:T13 3=T13n3:=rfl
theorem t13n4:T13 4=T13n4:=rfl
theorem t13n5:T13 5=T13n5:=rfl
theorem t13n6:T13 6=T13n6:=rfl
theorem t13n7:T13 7=T13n7:=rfl
theorem t13n8:T13 8=T13n8:=rfl
theorem t13n9:T13 9=T13n9:=rfl
theorem t13n10:T13 10=T13n10:=rfl
theorem t13n11:T13 11=T13n11:=rfl
def X13:XC:=.seq (.ops [zx 8 (.mov (.const (.slice none 0 0))),zx 9 (.mov (.const (.slice none 0 0))),zx 10 (.mov (.const (.int .i64 0))),zx 11 (.mov (.const (.int .i64 0)))]) (.ref 11)
abbrev K13:List Nat:=[0,1,2,3,8,9,10,11,12,13,14,15,16,20,35,57]
theorem n13:Tryz.f13.ntmps=63:=by kernel_rfl
theorem r13:resT Tryz.f13.results.toList=some [8,9,10,11]:=by kernel_rfl
theorem x13:cmpF Tryz.prog Tryz.f13=some (expand T13 13 X13):=by kernel_rfl
def T14n0:XC:=.seq (.ops [zi 19 5,zn (.store 5 (.tmp 2) (.tmp 19)),zx 3 (.mov (.const (.string (ByteArray.mk (Array.mk []))))),zx 4 (.mov (.const (.bool true)))]) .ret
def T14n1:XC:=.blk 1 (.ops [zm 31 7,zx 32 (.arith .sub .i64 (.tmp 31) (.const (.int .i64 1))),zm 7 32])
def T14n2:XC:=.seq (.seq (.ops [zm 23 7,zx 24 (.cmp .geq .i64 (.tmp 23) (.const (.int .i64 0))),zm 25 24,zh 26 25 true 0,zh 27 25 true 7,zg 28 25 true (.ixT (.tmp 26) (.tmp 27)),zg 29 25 true (.cmp .neq .u8 (.tmp 28) (.const (.int .u8 32))),zx 30 (.pick (.tmp 25) (.tmp 29) (.const (.bool false)))]) (.cond (.tmp 30) .skip (.exit 0))) (.ref 1)
def T14n3:XC:=.seq (.ops [zx 35 (.build [.int .i64 0,.int .i64 0,.int .i64 0,.int .i64 0,.int .i64 0] []),zn (.store 5 (.tmp 2) (.tmp 35)),zx 3 (.mov (.const (.string (ByteArray.mk (Array.mk []))))),zx 4 (.mov (.const (.bool false)))]) .ret
def T14n4:XC:=.seq (.ops [zx 74 (.build [.int .i64 0,.int .i64 0,.int .i64 0,.int .i64 0,.int .i64 0] []),zn (.store 5 (.tmp 2) (.tmp 74)),zx 3 (.mov (.const (.string (ByteArray.mk (Array.mk []))))),zx 4 (.mov (.const (.bool false)))]) .ret
def T14n5:XC:=.seq (.ops [zi 75 5,zm 76 8,zn (.store 5 (.tmp 2) (.tmp 75)),zm 3 76,zx 4 (.mov (.const (.bool true)))]) .ret
def T14n6:XC:=.seq (.seq (.ops [zm 55 9,zx 56 (.not (.tmp 55)),zm 57 56,zh 58 57 false 6,zg 59 57 false (.cmp .neq .i64 (.tmp 58) (.const (.int .i64 0))),zx 60 (.pick (.tmp 57) (.const (.bool true)) (.tmp 59)),zm 61 60,zh 62 61 false 10,zg 63 61 false (.not (.tmp 62)),zx 64 (.pick (.tmp 61) (.const (.bool true)) (.tmp 63)),zm 65 64,zh 66 65 false 11,zg 67 65 false (.not (.tmp 66)),zx 68 (.pick (.tmp 65) (.const (.bool true)) (.tmp 67)),zm 69 68,zh 70 69 false 0,zg 71 69 false (.ixT (.tmp 70) (.const (.int .i64 0))),zg 72 69 false (.cmp .eql .u8 (.tmp 71) (.const (.int .u8 114))),zx 73 (.pick (.tmp 69) (.const (.bool true)) (.tmp 72))]) (.cond (.tmp 73) (.ref 4) .skip)) (.ref 5)
def T14n7:XC:=.seq (.ops [zf 52 0 5,zl 53 52,zc 54 23 [.tmp 53],zm 11 54]) (.ref 6)
def T14n8:XC:=.seq (.ops [zi 50 5,zc 51 22 [.tmp 50],zm 10 51]) (.ref 7)
def T14n9:XC:=.seq (.ops [zm 43 0,zm 44 7,zx 45 (.subT (.tmp 43) none (some (.tmp 44))),zx 46 (.cat (.tmp 45) (.const (.string (ByteArray.mk (Array.mk [UInt8.ofNat 32,UInt8.ofNat 48]))))),zc 47 21 [.tmp 46],zm 42 47,zy 48 42 0,zy 49 42 1,zn (.store 5 (.tmp 5) (.tmp 48)),zm 6 49]) (.ref 8)
def T14n10:XC:=.seq (.ops [zm 40 8,zc 41 20 [.tmp 40],zm 9 41]) (.ref 9)
def T14n11:XC:=.seq (.ops [zm 36 0,zm 37 7,zp 38 37,zx 39 (.subT (.tmp 36) (some (.tmp 38)) none),zm 8 39]) (.ref 10)
def T14n12:XC:=.seq (.seq (.ops [zm 33 7,zx 34 (.cmp .lss .i64 (.tmp 33) (.const (.int .i64 0)))]) (.cond (.tmp 34) (.ref 3) .skip)) (.ref 11)
def T14n13:XC:=.seq (.blk 0 (.loop (.ref 2))) (.ref 12)
def T14n14:XC:=.seq (.ops [zm 20 0,zx 21 (.lenT (.tmp 20)),zx 22 (.arith .sub .i64 (.tmp 21) (.const (.int .i64 1))),zm 7 22]) (.ref 13)
def T14n15:XC:=.seq (.seq (.ops [zm 17 6,zx 18 (.cmp .eql .i64 (.tmp 17) (.const (.int .i64 0)))]) (.cond (.tmp 18) (.ref 0) .skip)) (.ref 14)
def T14n16:XC:=.seq (.ops [zm 13 0,zc 14 21 [.tmp 13],zm 12 14,zy 15 12 0,zy 16 12 1,zx 5 (.alloc 43 [.int .i64 0,.int .i64 0,.int .i64 0,.int .i64 0,.int .i64 0]),zn (.store 5 (.tmp 5) (.tmp 15)),zm 6 16]) (.ref 15)
def T14:Nat→XC
 | 0=>T14n0
 | 1=>T14n1
 | 2=>T14n2
 | 3=>T14n3
 | 4=>T14n4
 | 5=>T14n5
 | 6=>T14n6
 | 7=>T14n7
 | 8=>T14n8
 | 9=>T14n9
 | 10=>T14n10
 | 11=>T14n11
 | 12=>T14n12
 | 13=>T14n13
 | 14=>T14n14
 | 15=>T14n15
 | 16=>T14n16
 | _=>.skip
theorem t14n0:T14 0=T14n0:=rfl
theorem t14n1:T14 1=T14n1:=rfl
theorem t14n2:T14 2=T14n2:=rfl
theorem t14n3:T14 3=T14n3:=rfl
theorem t14n4:T14 4=T14n4:=rfl
theorem t14n5:T14 5=T14n5:=rfl
theorem t14n6:T14 6=T14n6:=rfl
theorem t14n7:T14 7=T14n7:=rfl
theorem t14n8:T14 8=T14n8:=rfl
theorem t14n9:T14 9=T14n9:=rfl
theorem t14n10:T14 10=T14n10:=rfl
theorem t14n11:T14 11=T14n11:=rfl
theorem t14n12:T14 12=T14n12:=rfl
theorem t14n13:T14 13=T14n13:=rfl
theorem t14n14:T14 14=T14n14:=rfl
theorem t14n15:T14 15=T14n15:=rfl
theorem t14n16:T14 16=T14n16:=rfl
def X14:XC:=.seq (.ops [zx 2 (.alloc 43 [.int .i64 0,.int .i64 0,.int .i64 0,.int .i64 0,.int .i64 0]),zx 3 (.mov (.const (.string (ByteArray.mk (Array.mk []))))),zx 4 (.mov (.const (.bool false)))]) (.ref 16)
abbrev K14:List Nat:=[0,2,3,4,5,6,7,8,9,10,11,18,30,34,73]
theorem n14:Tryz.f14.ntmps=77:=by kernel_rfl
theorem r14:rvOf Tryz.prog Tryz.f14.results.toList=some [RV.cell 2 5 true,RV.tmp 3,RV.tmp 4]:=by kernel_rfl
theorem x14:cmpF Tryz.prog Tryz.f14=some (expand T14 18 X14):=by kernel_rfl
def T20n0:XC:=.seq (.ops [zx 2 (.mov (.const (.bool false)))]) .ret
def T20n1:XC:=.seq (.ops [zx 2 (.mov (.const (.bool false)))]) .ret
def T20n2:XC:=.seq (.ops [zm 51 4,zx 52 (.not (.tmp 51)),zm 53 52,zh 54 53 true 5,zg 55 53 true (.not (.tmp 54)),zx 56 (.pick (.tmp 53) (.tmp 55) (.const (.bool false))),zm 57 56,zh 58 57 true 0,zh 59 57 true 3,zg 60 57 true (.ixT (.tmp 58) (.tmp 59)),zg 61 57 true (.cmp .neq .u8 (.tmp 60) (.const (.int .u8 95))),zx 62 (.pick (.tmp 57) (.tmp 61) (.const (.bool false)))]) (.cond (.tmp 62) (.ref 1) .skip)
def T20n3:XC:=.seq (.ops [zm 41 0,zm 42 3,zx 43 (.ixT (.tmp 41) (.tmp 42)),zx 44 (.cmp .geq .u8 (.tmp 43) (.const (.int .u8 48))),zm 45 44,zh 46 45 true 0,zh 47 45 true 3,zg 48 45 true (.ixT (.tmp 46) (.tmp 47)),zg 49 45 true (.cmp .leq .u8 (.tmp 48) (.const (.int .u8 57))),zx 50 (.pick (.tmp 45) (.tmp 49) (.const (.bool false))),zm 5 50]) (.ref 2)
def T20n4:XC:=.ops [zm 29 3,zp 30 29,zm 3 30]
def T20n5:XC:=.seq (.blk 1 (.seq (.ops [zm 31 0,zm 32 3,zx 33 (.ixT (.tmp 31) (.tmp 32)),zx 34 (.cmp .geq .u8 (.tmp 33) (.const (.int .u8 97))),zm 35 34,zh 36 35 true 0,zh 37 35 true 3,zg 38 35 true (.ixT (.tmp 36) (.tmp 37)),zg 39 35 true (.cmp .leq .u8 (.tmp 38) (.const (.int .u8 122))),zx 40 (.pick (.tmp 35) (.tmp 39) (.const (.bool false))),zm 4 40]) (.ref 3))) (.ref 4)
def T20n6:XC:=.seq (.seq (.ops [zm 25 3,zm 26 0,zx 27 (.lenT (.tmp 26)),zk 28 .lss 25 27]) (.cond (.tmp 28) .skip (.exit 0))) (.ref 5)
def T20n7:XC:=.seq (.ops [zm 65 6,zx 66 (.not (.tmp 65)),zm 2 66]) .ret
def T20n8:XC:=.seq (.ops [zm 63 0,zc 64 35 [.tmp 63],zm 6 64]) (.ref 7)
def T20n9:XC:=.seq (.seq (.ops [zx 3 (.mov (.const (.int .i64 0)))]) (.blk 0 (.loop (.ref 6)))) (.ref 8)
def T20n10:XC:=.seq (.seq (.ops [zm 7 0,zx 8 (.lenT (.tmp 7)),zx 9 (.cmp .lss .i64 (.tmp 8) (.const (.int .i64 1))),zm 10 9,zh 11 10 false 0,zg 12 10 false (.lenT (.tmp 11)),zg 13 10 false (.cmp .gtr .i64 (.tmp 12) (.const (.int .i64 16))),zx 14 (.pick (.tmp 10) (.const (.bool true)) (.tmp 13)),zm 15 14,zh 16 15 false 0,zg 17 15 false (.ixT (.tmp 16) (.const (.int .i64 0))),zg 18 15 false (.cmp .lss .u8 (.tmp 17) (.const (.int .u8 97))),zx 19 (.pick (.tmp 15) (.const (.bool true)) (.tmp 18)),zm 20 19,zh 21 20 false 0,zg 22 20 false (.ixT (.tmp 21) (.const (.int .i64 0))),zg 23 20 false (.cmp .gtr .u8 (.tmp 22) (.const (.int .u8 122))),zx 24 (.pick (.tmp 20) (.const (.bool true)) (.tmp 23))]) (.cond (.tmp 24) (.ref 0) .skip)) (.ref 9)
def T20:Nat→XC
 | 0=>T20n0
 | 1=>T20n1
 | 2=>T20n2
 | 3=>T20n3
 | 4=>T20n4
 | 5=>T20n5
 | 6=>T20n6
 | 7=>T20n7
 | 8=>T20n8
 | 9=>T20n9
 | 10=>T20n10
 | _=>.skip
theorem t20n0:T20 0=T20n0:=rfl
theorem t20n1:T20 1=T20n1:=rfl
theorem t20n2:T20 2=T20n2:=rfl
theorem t20n3:T20 3=T20n3:=rfl
theorem t20n4:T20 4=T20n4:=rfl
theorem t20n5:T20 5=T20n5:=rfl
theorem t20n6:T20 6=T20n6:=rfl
theorem t20n7:T20 7=T20n7:=rfl
theorem t20n8:T20 8=T20n8:=rfl
theorem t20n9:T20 9=T20n9:=rfl
theorem t20n10:T20 10=T20n10:=rfl
def X20:XC:=.seq (.ops [zx 2 (.mov (.const (.bool false)))]) (.ref 10)
abbrev K20:List Nat:=[0,2,3,4,5,6,24,28,62]
theorem n20:Tryz.f20.ntmps=67:=by kernel_rfl
theorem r20:resT Tryz.f20.results.toList=some [2]:=by kernel_rfl
theorem x20:cmpF Tryz.prog Tryz.f20=some (expand T20 12 X20):=by kernel_rfl
def T23n0:XC:=.seq (.ops [zm 3 0,zx 4 (.cmp .geq .i64 (.tmp 3) (.const (.int .i64 13))),zm 5 4,zh 6 5 true 0,zg 7 5 true (.cmp .leq .i64 (.tmp 6) (.const (.int .i64 16))),zx 8 (.pick (.tmp 5) (.tmp 7) (.const (.bool false))),zm 2 8]) .ret
def T23:Nat→XC
 | 0=>T23n0
 | _=>.skip
theorem t23n0:T23 0=T23n0:=rfl
def X23:XC:=.seq (.ops [zx 2 (.mov (.const (.bool false)))]) (.ref 0)
abbrev K23:List Nat:=[0,2]
theorem n23:Tryz.f23.ntmps=9:=by kernel_rfl
theorem r23:resT Tryz.f23.results.toList=some [2]:=by kernel_rfl
theorem x23:cmpF Tryz.prog Tryz.f23=some (expand T23 2 X23):=by kernel_rfl
def T35n0:XC:=.ops [zm 23 4,zm 24 5,zx 25 (.subT (.tmp 23) none (some (.tmp 24))),zm 4 25]
def T35n1:XC:=.ops [zm 17 5,zp 18 17,zm 5 18]
def T35n2:XC:=.seq (.blk 3 (.seq (.ops [zm 19 4,zm 20 5,zx 21 (.ixT (.tmp 19) (.tmp 20)),zx 22 (.cmp .eql .u8 (.tmp 21) (.const (.int .u8 32)))]) (.cond (.tmp 22) (.ref 0) .skip))) (.ref 1)
def T35n3:XC:=.seq (.seq (.ops [zm 13 5,zm 14 4,zx 15 (.lenT (.tmp 14)),zk 16 .lss 13 15]) (.cond (.tmp 16) .skip (.exit 2))) (.ref 2)
def T35n4:XC:=.seq (.ops [zx 2 (.mov (.const (.bool true)))]) .ret
def T35n5:XC:=.seq (.ops [zm 26 4,zm 27 0,zx 28 (.eqs .eql (.tmp 26) (.tmp 27))]) (.cond (.tmp 28) (.ref 4) .skip)
def T35n6:XC:=.seq (.seq (.ops [zx 5 (.mov (.const (.int .i64 0)))]) (.blk 2 (.loop (.ref 3)))) (.ref 5)
def T35n7:XC:=.ops [zm 8 3,zp 9 8,zm 3 9]
def T35n8:XC:=.seq (.blk 1 (.seq (.ops [zm 10 3,zx 11 (.build [.int .i64 0,.int .i64 0,.int .i64 0,.int .i64 0,.int .i64 0] [(0,1,.tmp 10)]),zc 12 38 [.tmp 11],zm 4 12]) (.ref 6))) (.ref 7)
def T35n9:XC:=.seq (.seq (.ops [zm 6 3,zx 7 (.cmp .leq .i64 (.tmp 6) (.const (.int .i64 18)))]) (.cond (.tmp 7) .skip (.exit 0))) (.ref 8)
def T35n10:XC:=.seq (.ops [zm 29 0,zx 30 (.eqs .eql (.tmp 29) (.const (.string (ByteArray.mk (Array.mk [UInt8.ofNat 114,UInt8.ofNat 97,UInt8.ofNat 119]))))),zm 2 30]) .ret
def T35n11:XC:=.seq (.seq (.ops [zx 3 (.mov (.const (.int .i64 1)))]) (.blk 0 (.loop (.ref 9)))) (.ref 10)
def T35:Nat→XC
 | 0=>T35n0
 | 1=>T35n1
 | 2=>T35n2
 | 3=>T35n3
 | 4=>T35n4
 | 5=>T35n5
 | 6=>T35n6
 | 7=>T35n7
 | 8=>T35n8
 | 9=>T35n9
 | 10=>T35n10
 | 11=>T35n11
 | _=>.skip
theorem t35n0:T35 0=T35n0:=rfl
theorem t35n1:T35 1=T35n1:=rfl
theorem t35n2:T35 2=T35n2:=rfl
theorem t35n3:T35 3=T35n3:=rfl
theorem t35n4:T35 4=T35n4:=rfl
theorem t35n5:T35 5=T35n5:=rfl
theorem t35n6:T35 6=T35n6:=rfl
theorem t35n7:T35 7=T35n7:=rfl
theorem t35n8:T35 8=T35n8:=rfl
theorem t35n9:T35 9=T35n9:=rfl
theorem t35n10:T35 10=T35n10:=rfl
theorem t35n11:T35 11=T35n11:=rfl
def X35:XC:=.seq (.ops [zx 2 (.mov (.const (.bool false)))]) (.ref 11)
abbrev K35:List Nat:=[0,2,3,4,5,7,16,22,28]
theorem n35:Tryz.f35.ntmps=31:=by kernel_rfl
theorem r35:resT Tryz.f35.results.toList=some [2]:=by kernel_rfl
theorem x35:cmpF Tryz.prog Tryz.f35=some (expand T35 13 X35):=by kernel_rfl
attribute [go_sem] t6n0 t6n1 t6n2 t6n3 t6n4 t6n5 t6n6 t6n7 t6n8 t6n9 t6n10 t6n11 t6n12 t6n13 t6n14 t6n15 t6n16 t6n17 t6n18 t6n19 t6n20 t6n21 t6n22 t6n23 t6n24 t6n25 t6n26 t6n27 T6n0 T6n1 T6n2 T6n3 T6n4 T6n5 T6n6 T6n7 T6n8 T6n9 T6n10 T6n11 T6n12 T6n13 T6n14 T6n15 T6n16 T6n17 T6n18 T6n19 T6n20 T6n21 T6n22 T6n23 T6n24 T6n25 T6n26 T6n27 X6
attribute [go_sem] t10n0 t10n1 t10n2 t10n3 t10n4 t10n5 t10n6 t10n7 t10n8 t10n9 t10n10 t10n11 t10n12 t10n13 t10n14 t10n15 t10n16 t10n17 t10n18 t10n19 t10n20 t10n21 t10n22 t10n23 T10n0 T10n1 T10n2 T10n3 T10n4 T10n5 T10n6 T10n7 T10n8 T10n9 T10n10 T10n11 T10n12 T10n13 T10n14 T10n15 T10n16 T10n17 T10n18 T10n19 T10n20 T10n21 T10n22 T10n23 X10
attribute [go_sem] t11n0 t11n1 t11n2 t11n3 t11n4 T11n0 T11n1 T11n2 T11n3 T11n4 X11
attribute [go_sem] t12n0 t12n1 t12n2 t12n3 t12n4 t12n5 T12n0 T12n1 T12n2 T12n3 T12n4 T12n5 X12
attribute [go_sem] t13n0 t13n1 t13n2 t13n3 t13n4 t13n5 t13n6 t13n7 t13n8 t13n9 t13n10 t13n11 T13n0 T13n1 T13n2 T13n3 T13n4 T13n5 T13n6 T13n7 T13n8 T13n9 T13n10 T13n11 X13
attribute [go_sem] t14n0 t14n1 t14n2 t14n3 t14n4 t14n5 t14n6 t14n7 t14n8 t14n9 t14n10 t14n11 t14n12 t14n13 t14n14 t14n15 t14n16 T14n0 T14n1 T14n2 T14n3 T14n4 T14n5 T14n6 T14n7 T14n8 T14n9 T14n10 T14n11 T14n12 T14n13 T14n14 T14n15 T14n16 X14
attribute [go_sem] t20n0 t20n1 t20n2 t20n3 t20n4 t20n5 t20n6 t20n7 t20n8 t20n9 t20n10 T20n0 T20n1 T20n2 T20n3 T20n4 T20n5 T20n6 T20n7 T20n8 T20n9 T20n10 X20
attribute [go_sem] t23n0 T23n0 X23
attribute [go_sem] t35n0 t35n1 t35n2 t35n3 t35n4 t35n5 t35n6 t35n7 t35n8 t35n9 t35n10 t35n11 T35n0 T35n1 T35n2 T35n3 T35n4 T35n5 T35n6 T35n7 T35n8 T35n9 T35n10 T35n11 X35
end Go.Proofs.YtaiajnehnjnadaaGreatDoor
