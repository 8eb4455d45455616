/- Printed by program: the small code of functions, and that it is theirs. -/
import Derived.Test.YtgghmmjoplddbaaGreatDoorSxStill
import Derived.Test.YtgghmmjoplddbaaGreatDoorProg
import Derived.KernelRfl
set_option linter.unusedSimpArgs false
set_option linter.unusedVariables false
set_option linter.unnecessarySimpa false
namespace Go.Proofs.YtgghmmjoplddbaaGreatDoor
open Go Go.Sx
set_option maxRecDepth 100000
def T3n0:XC:=.seq (.ops [zm 31 7,zm 6 31]) .ret
def T3n1:XC:=.seq (.ops [zx 6 (.mov (.const (.bool false)))]) .ret
def T3n2:XC:=.seq (.ops [zm 50 7,zm 6 50]) .ret
def T3n3:XC:=.seq (.ops [zm 44 8,zm 45 10,zd 46 2 44 45,zf 47 0 46,zl 48 47,zx 49 (.cmp .eql .i64 (.tmp 48) (.const (.int .i64 7)))]) (.cond (.tmp 49) (.ref 2) .skip)
def T3n4:XC:=.seq (.blk 1 (.seq (.ops [zm 43 41,zm 10 43]) (.ref 3))) (.ops [zp 51 41,zm 41 51])
def T3n5:XC:=.seq (.cond (.tmp 42) .skip (.exit 0)) (.ref 4)
def T3n6:XC:=.seq (.ops [zk 42 .lss 41 40]) (.ref 5)
def T3n7:XC:=.seq (.ops [zx 6 (.mov (.const (.bool false)))]) .ret
def T3n8:XC:=.seq (.ops [zm 106 15,zx 107 (.cmp .neq .i64 (.tmp 106) (.const (.int .i64 0)))]) (.cond (.tmp 107) (.exit 2) .skip)
def T3n9:XC:=.seq (.seq (.ops [zx 87 (.load [.int .i64,.int .i64,.int .i64,.int .u64,.int .u64] true (.tmp 14)),zx 88 (.load [.int .i64,.int .i64,.int .i64,.int .u64,.int .u64] true (.tmp 16)),zx 89 (.eqa true [.int .i64,.int .i64,.int .i64,.int .u64,.int .u64] (.tmp 87) (.tmp 88)),zm 90 89,zh 91 90 false 15,zh 92 90 false 17,zg 93 90 false (.cmp .neq .i64 (.tmp 91) (.tmp 92)),zx 94 (.pick (.tmp 90) (.const (.bool true)) (.tmp 93)),zm 95 94,zh 96 95 false 11,zg 97 95 false (.nilc (.tmp 96)),zg 98 95 false (.fld 8 (.tmp 97)),zg 99 95 false (.load [.int .i64] false (.tmp 98)),zh 100 95 false 12,zg 101 95 false (.nilc (.tmp 100)),zg 102 95 false (.fld 8 (.tmp 101)),zg 103 95 false (.load [.int .i64] false (.tmp 102)),zg 104 95 false (.cmp .neq .i64 (.tmp 99) (.tmp 103)),zx 105 (.pick (.tmp 95) (.const (.bool true)) (.tmp 104))]) (.cond (.tmp 105) (.ref 7) .skip)) (.ref 8)
def T3n10:XC:=.seq (.ops [zm 82 12,zm 83 0,zc 84 8 [.tmp 82,.tmp 83],zm 81 84,zy 85 81 0,zy 86 81 1,zx 16 (.alloc 39 [.int .i64 0,.int .i64 0,.int .i64 0,.int .u64 0,.int .u64 0]),zn (.store 5 (.tmp 16) (.tmp 85)),zm 17 86]) (.ref 9)
def T3n11:XC:=.ops [zm 73 13,zp 74 73,zm 13 74]
def T3n12:XC:=.seq (.blk 3 (.seq (.ops [zm 76 11,zm 77 0,zc 78 8 [.tmp 76,.tmp 77],zm 75 78,zy 79 75 0,zy 80 75 1,zx 14 (.alloc 39 [.int .i64 0,.int .i64 0,.int .i64 0,.int .u64 0,.int .u64 0]),zn (.store 5 (.tmp 14) (.tmp 79)),zm 15 80]) (.ref 10))) (.ref 11)
def T3n13:XC:=.seq (.seq (.ops [zm 62 13,zx 63 (.cmp .lss .i64 (.tmp 62) (.const (.int .i64 300))),zm 64 63,zh 65 64 true 11,zg 66 64 true (.nilc (.tmp 65)),zg 67 64 true (.fld 8 (.tmp 66)),zg 68 64 true (.load [.int .i64] false (.tmp 67)),zh 69 64 true 0,zg 70 64 true (.lenS (.tmp 69)),zg 71 64 true (.cmp .lss .i64 (.tmp 68) (.tmp 70)),zx 72 (.pick (.tmp 64) (.tmp 71) (.const (.bool false)))]) (.cond (.tmp 72) .skip (.exit 2))) (.ref 12)
def T3n14:XC:=.seq (.ops [zm 108 7,zm 6 108]) .ret
def T3n15:XC:=.seq (.seq (.ops [zx 13 (.mov (.const (.int .i64 0)))]) (.blk 2 (.loop (.ref 13)))) (.ref 14)
def T3n16:XC:=.seq (.ops [zx 57 (.idxA 2 8 (.tmp 4) (.const (.int .i64 1))),zx 58 (.load [.int .u64,.int .u64,.int .u64,.int .u64,.int .u64,.int .u64,.int .u64,.int .u64] true (.tmp 57)),zm 59 2,zx 60 (.build [.int .u64 0,.int .u64 0,.int .u64 0,.int .u64 0,.int .u64 0,.int .u64 0,.int .u64 0,.int .u64 0,.int .i64 0,.bool false,.slice none 0 0,.int .i64 0,.bool false,.bool false,.bool false,.bool false,.bool false,.bool false,.bool false,.bool false] [(0,8,.tmp 58),(10,1,.tmp 59)]),zx 61 (.box 37 20 (.tmp 60)),zm 12 61]) (.ref 15)
def T3n17:XC:=.seq (.ops [zx 52 (.idxA 2 8 (.tmp 4) (.const (.int .i64 0))),zx 53 (.load [.int .u64,.int .u64,.int .u64,.int .u64,.int .u64,.int .u64,.int .u64,.int .u64] true (.tmp 52)),zm 54 2,zx 55 (.build [.int .u64 0,.int .u64 0,.int .u64 0,.int .u64 0,.int .u64 0,.int .u64 0,.int .u64 0,.int .u64 0,.int .i64 0,.bool false,.slice none 0 0,.int .i64 0,.bool false,.bool false,.bool false,.bool false,.bool false,.bool false,.bool false,.bool false] [(0,8,.tmp 53),(10,1,.tmp 54)]),zx 56 (.box 37 20 (.tmp 55)),zm 11 56]) (.ref 16)
def T3n18:XC:=.seq (.seq (.ops [zm 39 8,ze 40 39,zx 41 (.mov (.const (.int .i64 0)))]) (.blk 0 (.loop (.ref 6)))) (.ref 17)
def T3n19:XC:=.seq (.seq (.ops [zm 37 9,zx 38 (.cmp .neq .i64 (.tmp 37) (.const (.int .i64 0)))]) (.cond (.tmp 38) (.ref 1) .skip)) (.ref 18)
def T3n20:XC:=.seq (.ops [zm 33 0,zc 34 7 [.tmp 33],zm 32 34,zy 35 32 0,zy 36 32 1,zm 8 35,zm 9 36]) (.ref 19)
def T3n21:XC:=.seq (.seq (.ops [zm 19 0,ze 20 19,zx 21 (.cmp .gtr .i64 (.tmp 20) (.const (.int .i64 200))),zm 22 21,zh 23 22 false 2,zg 24 22 false (.lenS (.tmp 23)),zg 25 22 false (.cmp .gtr .i64 (.tmp 24) (.const (.int .i64 200))),zx 26 (.pick (.tmp 22) (.const (.bool true)) (.tmp 25)),zm 27 26,zh 28 27 false 7,zg 29 27 false (.not (.tmp 28)),zx 30 (.pick (.tmp 27) (.const (.bool true)) (.tmp 29))]) (.cond (.tmp 30) (.ref 0) .skip)) (.ref 20)
def T3n22:XC:=.seq (.ops [zc 18 6 [],zm 7 18]) (.ref 21)
def T3:Nat→XC
 | 0=>T3n0
 | 1=>T3n1
 | 2=>T3n2
 | 3=>T3n3
 | 4=>T3n4
 | 5=>T3n5
 | 6=>T3n6
 | 7=>T3n7
 | 8=>T3n8
 | 9=>T3n9
 | 10=>T3n10
 | 11=>T3n11
 | 12=>T3n12
 | 13=>T3n13
 | 14=>T3n14
 | 15=>T3n15
 | 16=>T3n16
 | 17=>T3n17
 | 18=>T3n18
 | 19=>T3n19
 | 20=>T3n20
 | 21=>T3n21
 | 22=>T3n22
 | _=>.skip
theorem t3n0:T3 0=T3n0:=rfl
theorem t3n1:T3 1=T3n1:=rfl
theorem t3n2:T3 2=T3n2:=rfl
theorem t3n3:T3 3=T3n3:=rfl
theorem t3n4:T3 4=T3n4:=rfl
theorem t3n5:T3 5=T3n5:=rfl
theorem t3n6:T3 6=T3n6:=rfl
theorem t3n7:T3 7=T3n7:=rfl
theorem t3n8:T3 8=T3n8:=rfl
theorem t3n9:T3 9=T3n9:=rfl
theorem t3n10:T3 10=T3n10:=rfl
theorem t3n11:T3 11=T3n11:=rfl
theorem t3n12:T3 12=T3n12:=rfl
theorem t3n13:T3 13=T3n13:=rfl
theorem t3n14:T3 14=T3n14:=rfl
theorem t3n15:T3 15=T3n15:=rfl
theorem t3n16:T3 16=T3n16:=rfl
theorem t3n17:T3 17=T3n17:=rfl
theorem t3n18:T3 18=T3n18:=rfl
theorem t3n19:T3 19=T3n19:=rfl
theorem t3n20:T3 20=T3n20:=rfl
theorem t3n21:T3 21=T3n21:=rfl
theorem t3n22:T3 22=T3n22:=rfl
def X3:XC:=.seq (.ops [zx 4 (.box 25 16 (.tmp 1)),zx 6 (.mov (.const (.bool false)))]) (.ref 22)
theorem n3:Tryz.f3.ntmps=109:=by kernel_rfl
theorem r3:resT Tryz.f3.results.toList=some [6]:=by kernel_rfl
theorem x3:cmpF Tryz.prog Tryz.f3=some (expand T3 24 X3):=by kernel_rfl
def T4n0:XC:=.seq (.ops [zm 30 7,zm 6 30]) .ret
def T4n1:XC:=.seq (.ops [zx 6 (.mov (.const (.bool false)))]) .ret
def T4n2:XC:=.seq (.ops [zm 53 7,zm 54 53,zh 55 54 true 10,zg 56 54 true (.nilc (.tmp 55)),zg 57 54 true (.fld 9 (.tmp 56)),zg 58 54 true (.load [.bool] false (.tmp 57)),zg 59 54 true (.not (.tmp 58)),zh 60 54 true 59,zh 61 60 false 8,zh 62 60 false 11,zg 63 60 false (.buildS 3 1 1 [.int .i64 0] [(0,.const (.int .i64 5))]),.mk (some 64) (some (60,false)) (.call 9 [.tmp 61,.tmp 62,.tmp 63]),zh 65 60 false 64,zh 66 65 true 8,.mk (some 67) (some (65,true)) (.call 10 [.tmp 66]),zg 68 65 true (.not (.tmp 67)),zg 69 60 false (.pick (.tmp 65) (.tmp 68) (.const (.bool false))),zg 70 54 true (.pick (.tmp 60) (.const (.bool true)) (.tmp 69)),zx 71 (.pick (.tmp 54) (.tmp 70) (.const (.bool false))),zm 6 71]) .ret
def T4n3:XC:=.seq (.ops [zx 6 (.mov (.const (.bool false)))]) .ret
def T4n4:XC:=.seq (.ops [zm 112 7,zm 6 112]) .ret
def T4n5:XC:=.seq (.ops [zm 115 7,zm 116 115,zh 117 116 true 8,zh 118 116 true 13,zg 119 116 true (.buildS 3 2 1 [.int .i64 0] [(0,.const (.int .i64 1)),(1,.const (.int .i64 6))]),.mk (some 120) (some (116,true)) (.call 9 [.tmp 117,.tmp 118,.tmp 119]),zx 121 (.pick (.tmp 116) (.tmp 120) (.const (.bool false))),zm 122 121,zh 123 122 true 8,.mk (some 124) (some (122,true)) (.call 10 [.tmp 123]),zg 125 122 true (.not (.tmp 124)),zx 126 (.pick (.tmp 122) (.tmp 125) (.const (.bool false))),zm 6 126]) .ret
def T4n6:XC:=.cond (.tmp 127) .skip (.ops [zx 130 (.cmp .eql .i64 (.tmp 109) (.const (.int .i64 (-4)))),zm 127 130])
def T4n7:XC:=.seq (.ops [zx 129 (.cmp .eql .i64 (.tmp 109) (.const (.int .i64 (-3)))),zm 127 129]) (.ref 6)
def T4n8:XC:=.seq (.ops [zm 131 7,zm 132 131,zh 133 132 true 8,zh 134 132 true 13,zh 135 132 true 16,zg 136 132 true (.neg .i64 (.tmp 135)),zg 137 132 true (.buildS 3 1 1 [.int .i64 0] [(0,.tmp 136)]),.mk (some 138) (some (132,true)) (.call 9 [.tmp 133,.tmp 134,.tmp 137]),zx 139 (.pick (.tmp 132) (.tmp 138) (.const (.bool false))),zm 140 139,zh 141 140 true 8,.mk (some 142) (some (140,true)) (.call 10 [.tmp 141]),zg 143 140 true (.not (.tmp 142)),zx 144 (.pick (.tmp 140) (.tmp 143) (.const (.bool false))),zm 6 144]) .ret
def T4n9:XC:=.seq (.seq (.ops [zx 128 (.cmp .eql .i64 (.tmp 109) (.const (.int .i64 (-2)))),zm 127 128]) (.cond (.tmp 127) .skip (.ref 7))) (.cond (.tmp 127) (.ref 8) .skip)
def T4n10:XC:=.seq (.ops [zx 114 (.cmp .eql .i64 (.tmp 109) (.const (.int .i64 (-1)))),zm 113 114]) (.cond (.tmp 113) (.ref 5) (.ref 9))
def T4n11:XC:=.blk 2 (.seq (.ops [zx 111 (.cmp .eql .i64 (.tmp 109) (.const (.int .i64 1))),zm 110 111]) (.cond (.tmp 110) (.ref 4) (.ref 10)))
def T4n12:XC:=.seq (.seq (.ops [zm 109 16]) (.ref 11)) (.ops [zm 145 13,zm 11 145])
def T4n13:XC:=.seq (.ops [zm 104 10,zm 105 0,zc 106 8 [.tmp 104,.tmp 105],zm 103 106,zy 107 103 0,zy 108 103 1,zx 15 (.alloc 39 [.int .i64 0,.int .i64 0,.int .i64 0,.int .u64 0,.int .u64 0]),zn (.store 5 (.tmp 15) (.tmp 107)),zm 16 108]) (.ref 12)
def T4n14:XC:=.seq (.seq (.ops [zm 81 8,zm 82 13,zx 83 (.buildS 3 1 1 [.int .i64 0] [(0,.const (.int .i64 8))]),zc 84 9 [.tmp 81,.tmp 82,.tmp 83],zm 85 84,zh 86 85 false 14,zh 87 85 false 86,zh 88 87 true 10,zh 89 87 true 0,zh 90 87 true 13,zg 91 87 true (.idx 5 (.tmp 89) (.tmp 90)),zg 92 87 true (.load [.int .i64,.int .i64,.int .i64,.int .i64,.int .i64] true (.tmp 91)),.mk (some 93) (some (87,true)) (.call 12 [.tmp 88,.tmp 92]),zg 94 85 false (.pick (.tmp 87) (.tmp 93) (.const (.bool false))),zh 95 85 false 94,zh 96 95 true 8,zh 97 95 true 13,zg 98 95 true (.buildS 3 1 1 [.int .i64 0] [(0,.const (.int .i64 7))]),.mk (some 99) (some (95,true)) (.call 9 [.tmp 96,.tmp 97,.tmp 98]),zg 100 95 true (.not (.tmp 99)),zg 101 85 false (.pick (.tmp 95) (.tmp 100) (.const (.bool false))),zx 102 (.pick (.tmp 85) (.const (.bool true)) (.tmp 101))]) (.cond (.tmp 102) (.ref 3) .skip)) (.ref 13)
def T4n15:XC:=.seq (.ops [zm 76 0,zm 77 13,zd 78 5 76 77,zi 79 78,zc 80 11 [.tmp 79],zm 14 80]) (.ref 14)
def T4n16:XC:=.seq (.ops [zm 72 10,zx 73 (.nilc (.tmp 72)),zf 74 8 73,zl 75 74,zm 13 75]) (.ref 15)
def T4n17:XC:=.ops [zm 44 12,zp 45 44,zm 12 45]
def T4n18:XC:=.seq (.blk 1 (.seq (.seq (.ops [zm 46 10,zx 47 (.nilc (.tmp 46)),zf 48 8 47,zl 49 48,zm 50 0,ze 51 50,zk 52 .geq 49 51]) (.cond (.tmp 52) (.ref 2) .skip)) (.ref 16))) (.ref 17)
def T4n19:XC:=.seq (.seq (.ops [zm 42 12,zx 43 (.cmp .lss .i64 (.tmp 42) (.const (.int .i64 300)))]) (.cond (.tmp 43) .skip (.exit 0))) (.ref 18)
def T4n20:XC:=.seq (.ops [zm 146 7,zm 6 146]) .ret
def T4n21:XC:=.seq (.seq (.ops [zx 12 (.mov (.const (.int .i64 0)))]) (.blk 0 (.loop (.ref 19)))) (.ref 20)
def T4n22:XC:=.seq (.ops [zx 11 (.mov (.const (.int .i64 0)))]) (.ref 21)
def T4n23:XC:=.seq (.ops [zx 38 (.load [.int .u64,.int .u64,.int .u64,.int .u64,.int .u64,.int .u64,.int .u64,.int .u64] true (.tmp 4)),zm 39 2,zx 40 (.build [.int .u64 0,.int .u64 0,.int .u64 0,.int .u64 0,.int .u64 0,.int .u64 0,.int .u64 0,.int .u64 0,.int .i64 0,.bool false,.slice none 0 0,.int .i64 0,.bool false,.bool false,.bool false,.bool false,.bool false,.bool false,.bool false,.bool false] [(0,8,.tmp 38),(10,1,.tmp 39)]),zx 41 (.box 37 20 (.tmp 40)),zm 10 41]) (.ref 22)
def T4n24:XC:=.seq (.seq (.ops [zm 36 9,zx 37 (.cmp .neq .i64 (.tmp 36) (.const (.int .i64 0)))]) (.cond (.tmp 37) (.ref 1) .skip)) (.ref 23)
def T4n25:XC:=.seq (.ops [zm 32 0,zc 33 7 [.tmp 32],zm 31 33,zy 34 31 0,zy 35 31 1,zm 8 34,zm 9 35]) (.ref 24)
def T4n26:XC:=.seq (.seq (.ops [zm 18 0,ze 19 18,zx 20 (.cmp .gtr .i64 (.tmp 19) (.const (.int .i64 200))),zm 21 20,zh 22 21 false 2,zg 23 21 false (.lenS (.tmp 22)),zg 24 21 false (.cmp .gtr .i64 (.tmp 23) (.const (.int .i64 200))),zx 25 (.pick (.tmp 21) (.const (.bool true)) (.tmp 24)),zm 26 25,zh 27 26 false 7,zg 28 26 false (.not (.tmp 27)),zx 29 (.pick (.tmp 26) (.const (.bool true)) (.tmp 28))]) (.cond (.tmp 29) (.ref 0) .skip)) (.ref 25)
def T4n27:XC:=.seq (.ops [zc 17 6 [],zm 7 17]) (.ref 26)
def T4:Nat→XC
 | 0=>T4n0
 | 1=>T4n1
 | 2=>T4n2
 | 3=>T4n3
 | 4=>T4n4
 | 5=>T4n5
 | 6=>T4n6
 | 7=>T4n7
 | 8=>T4n8
 | 9=>T4n9
 | 10=>T4n10
 | 11=>T4n11
 | 12=>T4n12
 | 13=>T4n13
 | 14=>T4n14
 | 15=>T4n15
 | 16=>T4n16
 | 17=>T4n17
 | 18=>T4n18
 | 19=>T4n19
 | 20=>T4n20
 | 21=>T4n21
 | 22=>T4n22
 | 23=>T4n23
 | 24=>T4n24
 | 25=>T4n25
 | 26=>T4n26
 | 27=>T4n27
 | _=>.skip
theorem t4n0:T4 0=T4n0:=rfl
theorem t4n1:T4 1=T4n1:=rfl
theorem t4n2:T4 2=T4n2:=rfl
theorem t4n3:T4 3=T4n3:=rfl
theorem t4n4:T4 4=T4n4:=rfl
theorem t4n5:T4 5=T4n5:=rfl
theorem t4n6:T4 6=T4n6:=rfl
theorem t4n7:T4 7=T4n7:=rfl
theorem t4n8:T4 8=T4n8:=rfl
theorem t4n9:T4 9=T4n9:=rfl
theorem t4n10:T4 10=T4n10:=rfl
theorem t4n11:T4 11=T4n11:=rfl
theorem t4n12:T4 12=T4n12:=rfl
theorem t4n13:T4 13=T4n13:=rfl
theorem t4n14:T4 14=T4n14:=rfl
theorem t4n15:T4 15=T4n15:=rfl
theorem t4n16:T4 16=T4n16:=rfl
theorem t4n17:T4 17=T4n17:=rfl
theorem t4n18:T4 18=T4n18:=rfl
theorem t4n19:T4 19=T4n19:=rfl
theorem t4n20:T4 20=T4n20:=rfl
theorem t4n21:T4 21=T4n21:=rfl
theorem t4n22:T4 22=T4n22:=rfl
theorem t4n23:T4 23=T4n23:=rfl
theorem t4n24:T4 24=T4n24:=rfl
theorem t4n25:T4 25=T4n25:=rfl
theorem t4n26:T4 26=T4n26:=rfl
theorem t4n27:T4 27=T4n27:=rfl
def X4:XC:=.seq (.ops [zx 4 (.box 24 8 (.tmp 1)),zx 6 (.mov (.const (.bool false)))]) (.ref 27)
abbrev K4:List Nat:=[0,1,2,4,6,7,8,9,10,11,12,13,14,16,29,37,43,52,102,109,110,113,127]
theorem n4:Tryz.f4.ntmps=147:=by kernel_rfl
theorem r4:resT Tryz.f4.results.toList=some [6]:=by kernel_rfl
theorem x4:cmpF Tryz.prog Tryz.f4=some (expand T4 29 X4):=by kernel_rfl
def T8n0:XC:=.seq (.ops [zx 28 (.load [.int .i64,.int .i64,.int .i64,.int .u64,.int .u64] true (.tmp 6)),zn (.store 5 (.tmp 4) (.tmp 28)),zx 5 (.mov (.const (.int .i64 (-1))))]) .ret
def T8n1:XC:=.seq (.ops [zx 39 (.load [.int .i64,.int .i64,.int .i64,.int .u64,.int .u64] true (.tmp 6)),zn (.store 5 (.tmp 4) (.tmp 39)),zx 5 (.mov (.const (.int .i64 (-3))))]) .ret
def T8n2:XC:=.seq (.ops [zx 51 (.load [.int .i64,.int .i64,.int .i64,.int .u64,.int .u64] true (.tmp 6)),zn (.store 5 (.tmp 4) (.tmp 51)),zx 5 (.mov (.const (.int .i64 (-2))))]) .ret
def T8n3:XC:=.seq (.ops [zx 62 (.load [.int .i64,.int .i64,.int .i64,.int .u64,.int .u64] true (.tmp 6)),zn (.store 5 (.tmp 4) (.tmp 62)),zx 5 (.mov (.const (.int .i64 (-4))))]) .ret
def T8n4:XC:=.seq (.ops [zx 67 (.load [.int .i64,.int .i64,.int .i64,.int .u64,.int .u64] true (.tmp 6)),zn (.store 5 (.tmp 4) (.tmp 67)),zx 5 (.mov (.const (.int .i64 1)))]) .ret
def T8n5:XC:=.ops [zm 80 0,zf 81 2 6,zl 82 81,zx 83 (.nilc (.tmp 80)),zf 84 12 83,zx 85 (.idxA 8 1 (.tmp 84) (.tmp 82)),zn (.store 1 (.tmp 85) (.const (.bool true)))]
def T8n6:XC:=.seq (.ops [zm 72 0,zf 73 2 6,zl 74 73,zf 75 3 6,zx 76 (.load [.int .u64] false (.tmp 75)),zx 77 (.nilc (.tmp 72)),zf 78 0 77,zx 79 (.idxA 8 1 (.tmp 78) (.tmp 74)),zn (.store 1 (.tmp 79) (.tmp 76))]) (.ref 5)
def T8n7:XC:=.ops [zm 96 0,zx 97 (.nilc (.tmp 96)),zf 98 10 97,zx 99 (.load [.slc] false (.tmp 98)),zm 100 0,zx 101 (.nilc (.tmp 100)),zf 102 11 101,zl 103 102,zm 104 0,zx 105 (.nilc (.tmp 104)),zf 106 10 105,zx 107 (.load [.slc] false (.tmp 106)),ze 108 107,zx 109 (.div .rem .i64 (.tmp 103) (.tmp 108)),zd 110 1 99 109,zx 111 (.load [.int .u64] false (.tmp 110)),zm 7 111]
def T8n8:XC:=.ops [zm 126 0,zf 127 2 6,zl 128 127,zx 129 (.nilc (.tmp 126)),zf 130 12 129,zx 131 (.idxA 8 1 (.tmp 130) (.tmp 128)),zn (.store 1 (.tmp 131) (.const (.bool true)))]
def T8n9:XC:=.seq (.ops [zm 119 0,zf 120 2 6,zl 121 120,zm 122 7,zx 123 (.nilc (.tmp 119)),zf 124 0 123,zx 125 (.idxA 8 1 (.tmp 124) (.tmp 121)),zn (.store 1 (.tmp 125) (.tmp 122))]) (.ref 8)
def T8n10:XC:=.seq (.ops [zm 112 0,zx 113 (.nilc (.tmp 112)),zf 114 11 113,zl 115 114,zp 116 115,zx 117 (.nilc (.tmp 112)),zf 118 11 117,zn (.store 1 (.tmp 118) (.tmp 116))]) (.ref 9)
def T8n11:XC:=.seq (.seq (.ops [zm 90 0,zx 91 (.nilc (.tmp 90)),zf 92 10 91,zx 93 (.load [.slc] false (.tmp 92)),ze 94 93,zx 95 (.cmp .gtr .i64 (.tmp 94) (.const (.int .i64 0)))]) (.cond (.tmp 95) (.ref 7) .skip)) (.ref 10)
def T8n12:XC:=.seq (.ops [zx 7 (.mov (.const (.int .u64 0)))]) (.ref 11)
def T8n13:XC:=.ops [zm 136 0,zx 137 (.nilc (.tmp 136)),zf 138 9 137,zn (.store 1 (.tmp 138) (.const (.bool true)))]
def T8n14:XC:=.ops [zm 143 0,zx 144 (.nilc (.tmp 143)),zf 145 9 144,zn (.store 1 (.tmp 145) (.const (.bool false)))]
def T8n15:XC:=.seq (.ops [zf 140 0 6,zl 141 140,zx 142 (.cmp .eql .i64 (.tmp 141) (.const (.int .i64 6))),zm 139 142]) (.cond (.tmp 139) (.ref 14) .skip)
def T8n16:XC:=.seq (.ops [zf 133 0 6,zl 134 133,zx 135 (.cmp .eql .i64 (.tmp 134) (.const (.int .i64 5))),zm 132 135]) (.cond (.tmp 132) (.ref 13) (.ref 15))
def T8n17:XC:=.seq (.ops [zf 87 0 6,zl 88 87,zx 89 (.cmp .eql .i64 (.tmp 88) (.const (.int .i64 3))),zm 86 89]) (.cond (.tmp 86) (.ref 12) (.ref 16))
def T8n18:XC:=.seq (.ops [zf 69 0 6,zl 70 69,zx 71 (.cmp .eql .i64 (.tmp 70) (.const (.int .i64 1))),zm 68 71]) (.cond (.tmp 68) (.ref 6) (.ref 17))
def T8n19:XC:=.seq (.ops [zf 64 0 6,zl 65 64,zx 66 (.cmp .eql .i64 (.tmp 65) (.const (.int .i64 7))),zm 63 66]) (.cond (.tmp 63) (.ref 4) (.ref 18))
def T8n20:XC:=.seq (.ops [zf 53 0 6,zl 54 53,zx 55 (.cmp .eql .i64 (.tmp 54) (.const (.int .i64 7))),zm 56 55,zh 57 56 true 0,zg 58 56 true (.nilc (.tmp 57)),zg 59 56 true (.fld 9 (.tmp 58)),zg 60 56 true (.load [.bool] false (.tmp 59)),zx 61 (.pick (.tmp 56) (.tmp 60) (.const (.bool false))),zm 52 61]) (.cond (.tmp 52) (.ref 3) (.ref 19))
def T8n21:XC:=.seq (.ops [zf 41 0 6,zl 42 41,zx 43 (.cmp .eql .i64 (.tmp 42) (.const (.int .i64 6))),zm 44 43,zh 45 44 true 0,zg 46 44 true (.nilc (.tmp 45)),zg 47 44 true (.fld 9 (.tmp 46)),zg 48 44 true (.load [.bool] false (.tmp 47)),zg 49 44 true (.not (.tmp 48)),zx 50 (.pick (.tmp 44) (.tmp 49) (.const (.bool false))),zm 40 50]) (.cond (.tmp 40) (.ref 2) (.ref 20))
def T8n22:XC:=.seq (.ops [zf 30 0 6,zl 31 30,zx 32 (.cmp .eql .i64 (.tmp 31) (.const (.int .i64 5))),zm 33 32,zh 34 33 true 0,zg 35 33 true (.nilc (.tmp 34)),zg 36 33 true (.fld 9 (.tmp 35)),zg 37 33 true (.load [.bool] false (.tmp 36)),zx 38 (.pick (.tmp 33) (.tmp 37) (.const (.bool false))),zm 29 38]) (.cond (.tmp 29) (.ref 1) (.ref 21))
def T8n23:XC:=.seq (.ops [zx 151 (.load [.int .i64,.int .i64,.int .i64,.int .u64,.int .u64] true (.tmp 6)),zn (.store 5 (.tmp 4) (.tmp 151)),zx 5 (.mov (.const (.int .i64 0)))]) .ret
def T8n24:XC:=.seq (.ops [zm 146 0,zf 147 1 6,zl 148 147,zx 149 (.nilc (.tmp 146)),zf 150 8 149,zn (.store 1 (.tmp 150) (.tmp 148))]) (.ref 23)
def T8n25:XC:=.seq (.blk 0 (.seq (.ops [zf 25 0 6,zl 26 25,zx 27 (.cmp .eql .i64 (.tmp 26) (.const (.int .i64 0))),zm 24 27]) (.cond (.tmp 24) (.ref 0) (.ref 22)))) (.ref 24)
def T8:Nat→XC
 | 0=>T8n0
 | 1=>T8n1
 | 2=>T8n2
 | 3=>T8n3
 | 4=>T8n4
 | 5=>T8n5
 | 6=>T8n6
 | 7=>T8n7
 | 8=>T8n8
 | 9=>T8n9
 | 10=>T8n10
 | 11=>T8n11
 | 12=>T8n12
 | 13=>T8n13
 | 14=>T8n14
 | 15=>T8n15
 | 16=>T8n16
 | 17=>T8n17
 | 18=>T8n18
 | 19=>T8n19
 | 20=>T8n20
 | 21=>T8n21
 | 22=>T8n22
 | 23=>T8n23
 | 24=>T8n24
 | 25=>T8n25
 | _=>.skip
theorem t8n0:T8 0=T8n0:=rfl
theorem t8n1:T8 1=T8n1:=rfl
theorem t8n2:T8 2=T8n2:=rfl
theorem t8n3:T8 3=T8n3:=rfl
theorem t8n4:T8 4=T8n4:=rfl
theorem t8n5:T8 5=T8n5:=rfl
theorem t8n6:T8 6=T8n6:=rfl
theorem t8n7:T8 7=T8n7:=rfl
theorem t8n8:T8 8=T8n8:=rfl
theorem t8n9:T8 9=T8n9:=rfl
theorem t8n10:T8 10=T8n10:=rfl
theorem t8n11:T8 11=T8n11:=rfl
theorem t8n12:T8 12=T8n12:=rfl
theorem t8n13:T8 13=T8n13:=rfl
theorem t8n14:T8 14=T8n14:=rfl
theorem t8n15:T8 15=T8n15:=rfl
theorem t8n16:T8 16=T8n16:=rfl
theorem t8n17:T8 17=T8n17:=rfl
theorem t8n18:T8 18=T8n18:=rfl
theorem t8n19:T8 19=T8n19:=rfl
theorem t8n20:T8 20=T8n20:=rfl
theorem t8n21:T8 21=T8n21:=rfl
theorem t8n22:T8 22=T8n22:=rfl
theorem t8n23:T8 23=T8n23:=rfl
theorem t8n24:T8 24=T8n24:=rfl
theorem t8n25:T8 25=T8n25:=rfl
def X8:XC:=.seq (.ops [zx 4 (.alloc 39 [.int .i64 0,.int .i64 0,.int .i64 0,.int .u64 0,.int .u64 0]),zx 5 (.mov (.const (.int .i64 0)))]) (.seq (.alt 18 (.seq (zm 8 1) 0 (.seq (zm 9 0) 1 (.seq (zx 10 (.nilc (.tmp 9))) 2 (.seq (zf 11 8 10) 3 (.seq (zm 15 0) 7 (.seq (zx 16 (.nilc (.tmp 15))) 8 (.seq (zf 17 0 16) 9 (.seq (zm 19 0) 11 (.seq (zx 20 (.nilc (.tmp 19))) 12 (.seq (zf 21 8 20) 13 (.seq (zl 12 11) 4 (.seq (zd 13 5 8 12) 5 (.seq (zi 14 13) 6 (.seq (zx 18 (.load [.int .u64,.int .u64,.int .u64,.int .u64,.int .u64,.int .u64,.int .u64,.int .u64] true (.tmp 17))) 10 (.seq (zl 22 21) 14 (.alt (.seq (zc 23 27 [.tmp 14,.tmp 18,.tmp 22]) 15 (.seq (zx 6 (.alloc 39 [.int .i64 0,.int .i64 0,.int .i64 0,.int .u64 0,.int .u64 0])) 16 (.seq (zn (.store 5 (.tmp 6) (.tmp 23))) 17 .done))) (.seq (zx 6 (.alloc 39 [.int .i64 0,.int .i64 0,.int .i64 0,.int .u64 0,.int .u64 0])) 16 (.seq (zc 23 27 [.tmp 14,.tmp 18,.tmp 22]) 15 (.seq (zn (.store 5 (.tmp 6) (.tmp 23))) 17 .done)))))))))))))))))))) (.ref 25))
abbrev K8:List Nat:=[0,1,4,5,6,7,8,9,10,11,12,13,14,15,16,17,18,19,20,21,22,23,24,29,40,52,63,68,86,95,132,139]
theorem n8:Tryz.f8.ntmps=152:=by kernel_rfl
theorem r8:rvOf Tryz.prog Tryz.f8.results.toList=some [RV.cell 4 5 true,RV.tmp 5]:=by kernel_rfl
theorem x8:cmpF Tryz.prog Tryz.f8=some (expand T8 27 X8):=by kernel_rfl
def T9n0:XC:=.seq (.ops [zx 6 (.mov (.const (.bool true)))]) .ret
def T9n1:XC:=.seq (.ops [zm 19 0,zm 20 7,zd 21 2 19 20,zx 22 (.load [.int .i64,.int .i64] true (.tmp 21)),zm 23 2,zm 24 8,zd 25 1 23 24,zl 26 25,zm 27 1,zx 28 (.build [.int .i64 0,.int .i64 0] [(0,1,.tmp 26),(1,1,.tmp 27)]),zx 29 (.eqa false [.int .i64,.int .i64] (.tmp 22) (.tmp 28))]) (.cond (.tmp 29) (.ref 0) .skip)
def T9n2:XC:=.seq (.blk 3 (.seq (.ops [zm 18 16,zm 8 18]) (.ref 1))) (.ops [zp 30 16,zm 16 30])
def T9n3:XC:=.seq (.cond (.tmp 17) .skip (.exit 2)) (.ref 2)
def T9n4:XC:=.seq (.ops [zk 17 .lss 16 15]) (.ref 3)
def T9n5:XC:=.seq (.ops [zm 14 2,ze 15 14,zx 16 (.mov (.const (.int .i64 0)))]) (.blk 2 (.loop (.ref 4)))
def T9n6:XC:=.seq (.blk 1 (.seq (.ops [zm 13 11,zm 7 13]) (.ref 5))) (.ops [zp 31 11,zm 11 31])
def T9n7:XC:=.seq (.cond (.tmp 12) .skip (.exit 0)) (.ref 6)
def T9n8:XC:=.seq (.ops [zk 12 .lss 11 10]) (.ref 7)
def T9n9:XC:=.seq (.ops [zx 6 (.mov (.const (.bool false)))]) .ret
def T9n10:XC:=.seq (.seq (.ops [zm 9 0,ze 10 9,zx 11 (.mov (.const (.int .i64 0)))]) (.blk 0 (.loop (.ref 8)))) (.ref 9)
def T9:Nat→XC
 | 0=>T9n0
 | 1=>T9n1
 | 2=>T9n2
 | 3=>T9n3
 | 4=>T9n4
 | 5=>T9n5
 | 6=>T9n6
 | 7=>T9n7
 | 8=>T9n8
 | 9=>T9n9
 | 10=>T9n10
 | _=>.skip
theorem t9n0:T9 0=T9n0:=rfl
theorem t9n1:T9 1=T9n1:=rfl
theorem t9n2:T9 2=T9n2:=rfl
theorem t9n3:T9 3=T9n3:=rfl
theorem t9n4:T9 4=T9n4:=rfl
theorem t9n5:T9 5=T9n5:=rfl
theorem t9n6:T9 6=T9n6:=rfl
theorem t9n7:T9 7=T9n7:=rfl
theorem t9n8:T9 8=T9n8:=rfl
theorem t9n9:T9 9=T9n9:=rfl
theorem t9n10:T9 10=T9n10:=rfl
def X9:XC:=.seq (.ops [zx 6 (.mov (.const (.bool false)))]) (.ref 10)
abbrev K9:List Nat:=[0,1,2,6,7,8,10,11,12,15,16,17,29]
theorem n9:Tryz.f9.ntmps=32:=by kernel_rfl
theorem r9:resT Tryz.f9.results.toList=some [6]:=by kernel_rfl
theorem x9:cmpF Tryz.prog Tryz.f9=some (expand T9 12 X9):=by kernel_rfl
def T12n0:XC:=.cond (.tmp 10) .skip (.ops [zx 12 (.cmp .eql .i64 (.tmp 9) (.const (.int .i64 11))),zm 10 12])
def T12n1:XC:=.cond (.tmp 13) .skip (.ops [zx 20 (.cmp .eql .i64 (.tmp 9) (.const (.int .i64 10))),zm 13 20])
def T12n2:XC:=.seq (.ops [zx 19 (.cmp .eql .i64 (.tmp 9) (.const (.int .i64 9))),zm 13 19]) (.ref 1)
def T12n3:XC:=.seq (.ops [zx 18 (.cmp .eql .i64 (.tmp 9) (.const (.int .i64 8))),zm 13 18]) (.cond (.tmp 13) .skip (.ref 2))
def T12n4:XC:=.seq (.ops [zx 17 (.cmp .eql .i64 (.tmp 9) (.const (.int .i64 7))),zm 13 17]) (.cond (.tmp 13) .skip (.ref 3))
def T12n5:XC:=.seq (.ops [zx 16 (.cmp .eql .i64 (.tmp 9) (.const (.int .i64 6))),zm 13 16]) (.cond (.tmp 13) .skip (.ref 4))
def T12n6:XC:=.seq (.ops [zx 15 (.cmp .eql .i64 (.tmp 9) (.const (.int .i64 5))),zm 13 15]) (.cond (.tmp 13) .skip (.ref 5))
def T12n7:XC:=.cond (.tmp 21) .skip (.ops [zx 25 (.cmp .eql .i64 (.tmp 9) (.const (.int .i64 16))),zm 21 25])
def T12n8:XC:=.seq (.ops [zx 24 (.cmp .eql .i64 (.tmp 9) (.const (.int .i64 15))),zm 21 24]) (.ref 7)
def T12n9:XC:=.seq (.ops [zx 23 (.cmp .eql .i64 (.tmp 9) (.const (.int .i64 14))),zm 21 23]) (.cond (.tmp 21) .skip (.ref 8))
def T12n10:XC:=.cond (.tmp 21) (.ops [zx 5 (.mov (.const (.bool true))),zx 6 (.mov (.const (.bool true)))]) .skip
def T12n11:XC:=.seq (.seq (.ops [zx 22 (.cmp .eql .i64 (.tmp 9) (.const (.int .i64 12))),zm 21 22]) (.cond (.tmp 21) .skip (.ref 9))) (.ref 10)
def T12n12:XC:=.cond (.tmp 13) (.ops [zx 6 (.mov (.const (.bool true))),zx 7 (.mov (.const (.bool true)))]) (.ref 11)
def T12n13:XC:=.seq (.seq (.ops [zx 14 (.cmp .eql .i64 (.tmp 9) (.const (.int .i64 4))),zm 13 14]) (.cond (.tmp 13) .skip (.ref 6))) (.ref 12)
def T12n14:XC:=.cond (.tmp 10) (.ops [zx 6 (.mov (.const (.bool true)))]) (.ref 13)
def T12n15:XC:=.blk 0 (.seq (.seq (.ops [zx 11 (.cmp .eql .i64 (.tmp 9) (.const (.int .i64 3))),zm 10 11]) (.ref 0)) (.ref 14))
def T12n16:XC:=.seq (.ops [zm 26 5,zm 27 26,zh 28 27 true 0,zg 29 27 true (.fld 1 (.tmp 3)),zg 30 27 true (.load [.int .i64] false (.tmp 29)),zg 31 27 true (.nilc (.tmp 28)),zg 32 27 true (.fld 12 (.tmp 31)),zg 33 27 true (.idxA 8 1 (.tmp 32) (.tmp 30)),zg 34 27 true (.load [.bool] false (.tmp 33)),zg 35 27 true (.not (.tmp 34)),zx 36 (.pick (.tmp 27) (.tmp 35) (.const (.bool false))),zm 37 36,zh 38 37 false 6,zh 39 37 false 38,zh 40 39 true 0,zg 41 39 true (.fld 2 (.tmp 3)),zg 42 39 true (.load [.int .i64] false (.tmp 41)),zg 43 39 true (.nilc (.tmp 40)),zg 44 39 true (.fld 12 (.tmp 43)),zg 45 39 true (.idxA 8 1 (.tmp 44) (.tmp 42)),zg 46 39 true (.load [.bool] false (.tmp 45)),zg 47 39 true (.not (.tmp 46)),zg 48 37 false (.pick (.tmp 39) (.tmp 47) (.const (.bool false))),zx 49 (.pick (.tmp 37) (.const (.bool true)) (.tmp 48)),zm 50 49,zh 51 50 false 7,zh 52 50 false 51,zh 53 52 true 0,zg 54 52 true (.fld 3 (.tmp 3)),zg 55 52 true (.load [.int .i64] false (.tmp 54)),zg 56 52 true (.nilc (.tmp 53)),zg 57 52 true (.fld 12 (.tmp 56)),zg 58 52 true (.idxA 8 1 (.tmp 57) (.tmp 55)),zg 59 52 true (.load [.bool] false (.tmp 58)),zg 60 52 true (.not (.tmp 59)),zg 61 50 false (.pick (.tmp 52) (.tmp 60) (.const (.bool false))),zx 62 (.pick (.tmp 50) (.const (.bool true)) (.tmp 61)),zm 4 62]) .ret
def T12n17:XC:=.seq (.seq (.ops [zf 8 0 3,zl 9 8]) (.ref 15)) (.ref 16)
def T12n18:XC:=.seq (.ops [zx 5 (.mov (.const (.bool false))),zx 6 (.mov (.const (.bool false))),zx 7 (.mov (.const (.bool false)))]) (.ref 17)
def T12:Nat→XC
 | 0=>T12n0
 | 1=>T12n1
 | 2=>T12n2
 | 3=>T12n3
 | 4=>T12n4
 | 5=>T12n5
 | 6=>T12n6
 | 7=>T12n7
 | 8=>T12n8
 | 9=>T12n9
 | 10=>T12n10
 | 11=>T12n11
 | 12=>T12n12
 | 13=>T12n13
 | 14=>T12n14
 | 15=>T12n15
 | 16=>T12n16
 | 17=>T12n17
 | 18=>T12n18
 | _=>.skip
theorem t12n0:T12 0=T12n0:=rfl
theorem t12n1:T12 1=T12n1:=rfl
theorem t12n2:T12 2=T12n2:=rfl
theorem t12n3:T12 3=T12n3:=rfl
theorem t12n4:T12 4=T12n4:=rfl
theorem t12n5:T12 5=T12n5:=rfl
theorem t12n6:T12 6=T12n6:=rfl
theorem t12n7:T12 7=T12n7:=rfl
theorem t12n8:T12 8=T12n8:=rfl
theorem t12n9:T12 9=T12n9:=rfl
theorem t12n10:T12 10=T12n10:=rfl
theorem t12n11:T12 11=T12n11:=rfl
theorem t12n12:T12 12=T12n12:=rfl
theorem t12n13:T12 13=T12n13:=rfl
theorem t12n14:T12 14=T12n14:=rfl
theorem t12n15:T12 15=T12n15:=rfl
theorem t12n16:T12 16=T12n16:=rfl
theorem t12n17:T12 17=T12n17:=rfl
theorem t12n18:T12 18=T12n18:=rfl
def X12:XC:=.seq (.ops [zx 3 (.box 47 5 (.tmp 1)),zx 4 (.mov (.const (.bool false)))]) (.ref 18)
abbrev K12:List Nat:=[0,1,3,4,5,6,7,9,10,13,21]
theorem n12:Tryz.f12.ntmps=63:=by kernel_rfl
theorem r12:resT Tryz.f12.results.toList=some [4]:=by kernel_rfl
theorem x12:cmpF Tryz.prog Tryz.f12=some (expand T12 20 X12):=by kernel_rfl
attribute [go_sem] t3n0 t3n1 t3n2 t3n3 t3n4 t3n5 t3n6 t3n7 t3n8 t3n9 t3n10 t3n11 t3n12 t3n13 t3n14 t3n15 t3n16 t3n17 t3n18 t3n19 t3n20 t3n21 t3n22 T3n0 T3n1 T3n2 T3n3 T3n4 T3n5 T3n6 T3n7 T3n8 T3n9 T3n10 T3n11 T3n12 T3n13 T3n14 T3n15 T3n16 T3n17 T3n18 T3n19 T3n20 T3n21 T3n22 X3
attribute [go_sem] t4n0 t4n1 t4n2 t4n3 t4n4 t4n5 t4n6 t4n7 t4n8 t4n9 t4n10 t4n11 t4n12 t4n13 t4n14 t4n15 t4n16 t4n17 t4n18 t4n19 t4n20 t4n21 t4n22 t4n23 t4n24 t4n25 t4n26 t4n27 T4n0 T4n1 T4n2 T4n3 T4n4 T4n5 T4n6 T4n7 T4n8 T4n9 T4n10 T4n11 T4n12 T4n13 T4n14 T4n15 T4n16 T4n17 T4n18 T4n19 T4n20 T4n21 T4n22 T4n23 T4n24 T4n25 T4n26 T4n27 X4
attribute [go_sem] t8n0 t8n1 t8n2 t8n3 t8n4 t8n5 t8n6 t8n7 t8n8 t8n9 t8n10 t8n11 t8n12 t8n13 t8n14 t8n15 t8n16 t8n17 t8n18 t8n19 t8n20 t8n21 t8n22 t8n23 t8n24 t8n25 T8n0 T8n1 T8n2 T8n3 T8n4 T8n5 T8n6 T8n7 T8n8 T8n9 T8n10 T8n11 T8n12 T8n13 T8n14 T8n15 T8n16 T8n17 T8n18 T8n19 T8n20 T8n21 T8n22 T8n23 T8n24 T8n25 X8
attribute [go_sem] t9n0 t9n1 t9n2 t9n3 t9n4 t9n5 t9n6 t9n7 t9n8 t9n9 t9n10 T9n0 T9n1 T9n2 T9n3 T9n4 T9n5 T9n6 T9n7 T9n8 T9n9 T9n10 X9
attribute [go_sem] t12n0 t12n1 t12n2 t12n3 t12n4 t12n5 t12n6 t12n7 t12n8 t12n9 t12n10 t12n11 t12n12 t12n13 t12n14 t12n15 t12n16 t12n17 t12n18 T12n0 T12n1 T12n2 T12n3 T12n4 T12n5 T12n6 T12n7 T12n8 T12n9 T12n10 T12n11 T12n12 T12n13 T12n14 T12n15 T12n16 T12n17 T12n18 X12
end Go.Proofs.YtgghmmjoplddbaaGreatDoor
