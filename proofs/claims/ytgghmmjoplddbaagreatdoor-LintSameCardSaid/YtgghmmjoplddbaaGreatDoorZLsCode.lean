/- Printed by program: the small code of functions, and that it is theirs. -/
import Derived.Test.YtgghmmjoplddbaaGreatDoorSxStill
import Derived.Test.YtgghmmjoplddbaaGreatDoorProg
import Derived.KernelRfl
set_option linter.unusedSimpArgs false
set_option linter.unusedVariables false
set_option linter.unnecessarySimpa false
namespace Go.Proofs.YtgghmmjoplddbaaGreatDoor
open Go Go.Sx
set_option maxRecDepth 100000
def T3n0:XC:=.seq (.ops [zm 31 7,zm 6 31]) .ret
def T3n1:XC:=.seq (.ops [zx 6 (.mov (.const (.bool false)))]) .ret
def T3n2:XC:=.seq (.ops [zm 50 7,zm 6 50]) .ret
def T3n3:XC:=.seq (.ops [zm 44 8,zm 45 10,zd 46 2 44 45,zf 47 0 46,zl 48 47,zx 49 (.cmp .eql .i64 (.tmp 48) (.const (.int .i64 7)))]) (.cond (.tmp 49) (.ref 2) .skip)
def T3n4:XC:=.seq (.blk 1 (.seq (.ops [zm 43 41,zm 10 43]) (.ref 3))) (.ops [zp 51 41,zm 41 51])
def T3n5:XC:=.seq (.cond (.tmp 42) .skip (.exit 0)) (.ref 4)
def T3n6:XC:=.seq (.ops [zk 42 .lss 41 40]) (.ref 5)
def T3n7:XC:=.seq (.ops [zx 6 (.mov (.const (.bool false)))]) .ret
def T3n8:XC:=.seq (.ops [zm 106 15,zx 107 (.cmp .neq .i64 (.tmp 106) (.const (.int .i64 0)))]) (.cond (.tmp 107) (.exit 2) .skip)
def T3n9:XC:=.seq (.seq (.ops [zx 87 (.load [.int .i64,.int .i64,.int .i64,.int .u64,.int .u64] true (.tmp 14)),zx 88 (.load [.int .i64,.int .i64,.int .i64,.int .u64,.int .u64] true (.tmp 16)),zx 89 (.eqa true [.int .i64,.int .i64,.int .i64,.int .u64,.int .u64] (.tmp 87) (.tmp 88)),zm 90 89,zh 91 90 false 15,zh 92 90 false 17,zg 93 90 false (.cmp .neq .i64 (.tmp 91) (.tmp 92)),zx 94 (.pick (.tmp 90) (.const (.bool true)) (.tmp 93)),zm 95 94,zh 96 95 false 11,zg 97 95 false (.nilc (.tmp 96)),zg 98 95 false (.fld 8 (.tmp 97)),zg 99 95 false (.load [.int .i64] false (.tmp 98)),zh 100 95 false 12,zg 101 95 false (.nilc (.tmp 100)),zg 102 95 false (.fld 8 (.tmp 101)),zg 103 95 false (.load [.int .i64] false (.tmp 102)),zg 104 95 false (.cmp .neq .i64 (.tmp 99) (.tmp 103)),zx 105 (.pick (.tmp 95) (.const (.bool true)) (.tmp 104))]) (.cond (.tmp 105) (.ref 7) .skip)) (.ref 8)
def T3n10:XC:=.seq (.ops [zm 82 12,zm 83 0,zc 84 8 [.tmp 82,.tmp 83],zm 81 84,zy 85 81 0,zy 86 81 1,zx 16 (.alloc 39 [.int .i64 0,.int .i64 0,.int .i64 0,.int .u64 0,.int .u64 0]),zn (.store 5 (.tmp 16) (.tmp 85)),zm 17 86]) (.ref 9)
def T3n11:XC:=.ops [zm 73 13,zp 74 73,zm 13 74]
def T3n12:XC:=.seq (.blk 3 (.seq (.ops [zm 76 11,zm 77 0,zc 78 8 [.tmp 76,.tmp 77],zm 75 78,zy 79 75 0,zy 80 75 1,zx 14 (.alloc 39 [.int .i64 0,.int .i64 0,.int .i64 0,.int .u64 0,.int .u64 0]),zn (.store 5 (.tmp 14) (.tmp 79)),zm 15 80]) (.ref 10))) (.ref 11)
def T3n13:XC:=.seq (.seq (.ops [zm 62 13,zx 63 (.cmp .lss .i64 (.tmp 62) (.const (.int .i64 300))),zm 64 63,zh 65 64 true 11,zg 66 64 true (.nilc (.tmp 65)),zg 67 64 true (.fld 8 (.tmp 66)),zg 68 64 true (.load [.int .i64] false (.tmp 67)),zh 69 64 true 0,zg 70 64 true (.lenS (.tmp 69)),zg 71 64 true (.cmp .lss .i64 (.tmp 68) (.tmp 70)),zx 72 (.pick (.tmp 64) (.tmp 71) (.const (.bool false)))]) (.cond (.tmp 72) .skip (.exit 2))) (.ref 12)
def T3n14:XC:=.seq (.ops [zm 108 7,zm 6 108]) .ret
def T3n15:XC:=.seq (.seq (.ops [zx 13 (.mov (.const (.int .i64 0)))]) (.blk 2 (.loop (.ref 13)))) (.ref 14)
def T3n16:XC:=.seq (.ops [zx 57 (.idxA 2 8 (.tmp 4) (.const (.int .i64 1))),zx 58 (.load [.int .u64,.int .u64,.int .u64,.int .u64,.int .u64,.int .u64,.int .u64,.int .u64] true (.tmp 57)),zm 59 2,zx 60 (.build [.int .u64 0,.int .u64 0,.int .u64 0,.int .u64 0,.int .u64 0,.int .u64 0,.int .u64 0,.int .u64 0,.int .i64 0,.bool false,.slice none 0 0,.int .i64 0,.bool false,.bool false,.bool false,.bool false,.bool false,.bool false,.bool false,.bool false] [(0,8,.tmp 58),(10,1,.tmp 59)]),zx 61 (.box 37 20 (.tmp 60)),zm 12 61]) (.ref 15)
def T3n17:XC:=.seq (.ops [zx 52 (.idxA 2 8 (.tmp 4) (.const (.int .i64 0))),zx 53 (.load [.int .u64,.int .u64,.int .u64,.int .u64,.int .u64,.int .u64,.int .u64,.int .u64] true (.tmp 52)),zm 54 2,zx 55 (.build [.int .u64 0,.int .u64 0,.int .u64 0,.int .u64 0,.int .u64 0,.int .u64 0,.int .u64 0,.int .u64 0,.int .i64 0,.bool false,.slice none 0 0,.int .i64 0,.bool false,.bool false,.bool false,.bool false,.bool false,.bool false,.bool false,.bool false] [(0,8,.tmp 53),(10,1,.tmp 54)]),zx 56 (.box 37 20 (.tmp 55)),zm 11 56]) (.ref 16)
def T3n18:XC:=.seq (.seq (.ops [zm 39 8,ze 40 39,zx 41 (.mov (.const (.int .i64 0)))]) (.blk 0 (.loop (.ref 6)))) (.ref 17)
def T3n19:XC:=.seq (.seq (.ops [zm 37 9,zx 38 (.cmp .neq .i64 (.tmp 37) (.const (.int .i64 0)))]) (.cond (.tmp 38) (.ref 1) .skip)) (.ref 18)
def T3n20:XC:=.seq (.ops [zm 33 0,zc 34 7 [.tmp 33],zm 32 34,zy 35 32 0,zy 36 32 1,zm 8 35,zm 9 36]) (.ref 19)
def T3n21:XC:=.seq (.seq (.ops [zm 19 0,ze 20 19,zx 21 (.cmp .gtr .i64 (.tmp 20) (.const (.int .i64 200))),zm 22 21,zh 23 22 false 2,zg 24 22 false (.lenS (.tmp 23)),zg 25 22 false (.cmp .gtr .i64 (.tmp 24) (.const (.int .i64 200))),zx 26 (.pick (.tmp 22) (.const (.bool true)) (.tmp 25)),zm 27 26,zh 28 27 false 7,zg 29 27 false (.not (.tmp 28)),zx 30 (.pick (.tmp 27) (.const (.bool true)) (.tmp 29))]) (.cond (.tmp 30) (.ref 0) .skip)) (.ref 20)
def T3n22:XC:=.seq (.ops [zc 18 6 [],zm 7 18]) (.ref 21)
def T3:Nat→XC
 | 0=>T3n0
 | 1=>T3n1
 | 2=>T3n2
 | 3=>T3n3
 | 4=>T3n4
 | 5=>T3n5
 | 6=>T3n6
 | 7=>T3n7
 | 8=>T3n8
 | 9=>T3n9
 | 10=>T3n10
 | 11=>T3n11
 | 12=>T3n12
 | 13=>T3n13
 | 14=>T3n14
 | 15=>T3n15
 | 16=>T3n16
 | 17=>T3n17
 | 18=>T3n18
 | 19=>T3n19
 | 20=>T3n20
 | 21=>T3n21
 | 22=>T3n22
 | _=>.skip
theorem t3n0:T3 0=T3n0:=rfl
theorem t3n1:T3 1=T3n1:=rfl
theorem t3n2:T3 2=T3n2:=rfl
theorem t3n3:T3 3=T3n3:=rfl
theorem t3n4:T3 4=T3n4:=rfl
theorem t3n5:T3 5=T3n5:=rfl
theorem t3n6:T3 6=T3n6:=rfl
theorem t3n7:T3 7=T3n7:=rfl
theorem t3n8:T3 8=T3n8:=rfl
theorem t3n9:T3 9=T3n9:=rfl
theorem t3n10:T3 10=T3n10:=rfl
theorem t3n11:T3 11=T3n11:=rfl
theorem t3n12:T3 12=T3n12:=rfl
theorem t3n13:T3 13=T3n13:=rfl
theorem t3n14:T3 14=T3n14:=rfl
theorem t3n15:T3 15=T3n15:=rfl
theorem t3n16:T3 16=T3n16:=rfl
theorem t3n17:T3 17=T3n17:=rfl
theorem t3n18:T3 18=T3n18:=rfl
theorem t3n19:T3 19=T3n19:=rfl
theorem t3n20:T3 20=T3n20:=rfl
theorem t3n21:T3 21=T3n21:=rfl
theorem t3n22:T3 22=T3n22:=rfl
def X3:XC:=.seq (.ops [zx 4 (.box 25 16 (.tmp 1)),zx 6 (.mov (.const (.bool false)))]) (.ref 22)
abbrev K3:List Nat:=[0,1,2,4,6,7,8,9,10,11,12,13,14,15,16,17,30,38,40,41,42,49,72,105,107]
theorem n3:Tryz.f3.ntmps=109:=by kernel_rfl
theorem r3:resT Tryz.f3.results.toList=some [6]:=by kernel_rfl
theorem x3:cmpF Tryz.prog Tryz.f3=some (expand T3 24 X3):=by kernel_rfl
theorem n4:Tryz.f4.ntmps=147:=by kernel_rfl
theorem r4:resT Tryz.f4.results.toList=some [6]:=by kernel_rfl
def T8n0:XC:=.seq (.ops [zx 28 (.load [.int .i64,.int .i64,.int .i64,.int .u64,.int .u64] true (.tmp 6)),zn (.store 5 (.tmp 4) (.tmp 28)),zx 5 (.mov (.const (.int .i64 (-1))))]) .ret
def T8n1:XC:=.seq (.ops [zx 39 (.load [.int .i64,.int .i64,.int .i64,.int .u64,.int .u64] true (.tmp 6)),zn (.store 5 (.tmp 4) (.tmp 39)),zx 5 (.mov (.const (.int .i64 (-3))))]) .ret
def T8n2:XC:=.seq (.ops [zx 51 (.load [.int .i64,.int .i64,.int .i64,.int .u64,.int .u64] true (.tmp 6)),zn (.store 5 (.tmp 4) (.tmp 51)),zx 5 (.mov (.const (.int .i64 (-2))))]) .ret
def T8n3:XC:=.seq (.ops [zx 62 (.load [.int .i64,.int .i64,.int .i64,.int .u64,.int .u64] true (.tmp 6)),zn (.store 5 (.tmp 4) (.tmp 62)),zx 5 (.mov (.const (.int .i64 (-4))))]) .ret
def T8n4:XC:=.seq (.ops [zx 67 (.load [.int .i64,.int .i64,.int .i64,.int .u64,.int .u64] true (.tmp 6)),zn (.store 5 (.tmp 4) (.tmp 67)),zx 5 (.mov (.const (.int .i64 1)))]) .ret
def T8n5:XC:=.ops [zm 80 0,zf 81 2 6,zl 82 81,zx 83 (.nilc (.tmp 80)),zf 84 12 83,zx 85 (.idxA 8 1 (.tmp 84) (.tmp 82)),zn (.store 1 (.tmp 85) (.const (.bool true)))]
def T8n6:XC:=.seq (.ops [zm 72 0,zf 73 2 6,zl 74 73,zf 75 3 6,zx 76 (.load [.int .u64] false (.tmp 75)),zx 77 (.nilc (.tmp 72)),zf 78 0 77,zx 79 (.idxA 8 1 (.tmp 78) (.tmp 74)),zn (.store 1 (.tmp 79) (.tmp 76))]) (.ref 5)
def T8n7:XC:=.ops [zm 96 0,zx 97 (.nilc (.tmp 96)),zf 98 10 97,zx 99 (.load [.slc] false (.tmp 98)),zm 100 0,zx 101 (.nilc (.tmp 100)),zf 102 11 101,zl 103 102,zm 104 0,zx 105 (.nilc (.tmp 104)),zf 106 10 105,zx 107 (.load [.slc] false (.tmp 106)),ze 108 107,zx 109 (.div .rem .i64 (.tmp 103) (.tmp 108)),zd 110 1 99 109,zx 111 (.load [.int .u64] false (.tmp 110)),zm 7 111]
def T8n8:XC:=.ops [zm 126 0,zf 127 2 6,zl 128 127,zx 129 (.nilc (.tmp 126)),zf 130 12 129,zx 131 (.idxA 8 1 (.tmp 130) (.tmp 128)),zn (.store 1 (.tmp 131) (.const (.bool true)))]
def T8n9:XC:=.seq (.ops [zm 119 0,zf 120 2 6,zl 121 120,zm 122 7,zx 123 (.nilc (.tmp 119)),zf 124 0 123,zx 125 (.idxA 8 1 (.tmp 124) (.tmp 121)),zn (.store 1 (.tmp 125) (.tmp 122))]) (.ref 8)
def T8n10:XC:=.seq (.ops [zm 112 0,zx 113 (.nilc (.tmp 112)),zf 114 11 113,zl 115 114,zp 116 115,zx 117 (.nilc (.tmp 112)),zf 118 11 117,zn (.store 1 (.tmp 118) (.tmp 116))]) (.ref 9)
def T8n11:XC:=.seq (.seq (.ops [zm 90 0,zx 91 (.nilc (.tmp 90)),zf 92 10 91,zx 93 (.load [.slc] false (.tmp 92)),ze 94 93,zx 95 (.cmp .gtr .i64 (.tmp 94) (.const (.int .i64 0)))]) (.cond (.tmp 95) (.ref 7) .skip)) (.ref 10)
def T8n12:XC:=.seq (.ops [zx 7 (.mov (.const (.int .u64 0)))]) (.ref 11)
def T8n13:XC:=.ops [zm 136 0,zx 137 (.nilc (.tmp 136)),zf 138 9 137,zn (.store 1 (.tmp 138) (.const (.bool true)))]
def T8n14:XC:=.ops [zm 143 0,zx 144 (.nilc (.tmp 143)),zf 145 9 144,zn (.store 1 (.tmp 145) (.const (.bool false)))]
def T8n15:XC:=.seq (.ops [zf 140 0 6,zl 141 140,zx 142 (.cmp .eql .i64 (.tmp 141) (.const (.int .i64 6))),zm 139 142]) (.cond (.tmp 139) (.ref 14) .skip)
def T8n16:XC:=.seq (.ops [zf 133 0 6,zl 134 133,zx 135 (.cmp .eql .i64 (.tmp 134) (.const (.int .i64 5))),zm 132 135]) (.cond (.tmp 132) (.ref 13) (.ref 15))
def T8n17:XC:=.seq (.ops [zf 87 0 6,zl 88 87,zx 89 (.cmp .eql .i64 (.tmp 88) (.const (.int .i64 3))),zm 86 89]) (.cond (.tmp 86) (.ref 12) (.ref 16))
def T8n18:XC:=.seq (.ops [zf 69 0 6,zl 70 69,zx 71 (.cmp .eql .i64 (.tmp 70) (.const (.int .i64 1))),zm 68 71]) (.cond (.tmp 68) (.ref 6) (.ref 17))
def T8n19:XC:=.seq (.ops [zf 64 0 6,zl 65 64,zx 66 (.cmp .eql .i64 (.tmp 65) (.const (.int .i64 7))),zm 63 66]) (.cond (.tmp 63) (.ref 4) (.ref 18))
def T8n20:XC:=.seq (.ops [zf 53 0 6,zl 54 53,zx 55 (.cmp .eql .i64 (.tmp 54) (.const (.int .i64 7))),zm 56 55,zh 57 56 true 0,zg 58 56 true (.nilc (.tmp 57)),zg 59 56 true (.fld 9 (.tmp 58)),zg 60 56 true (.load [.bool] false (.tmp 59)),zx 61 (.pick (.tmp 56) (.tmp 60) (.const (.bool false))),zm 52 61]) (.cond (.tmp 52) (.ref 3) (.ref 19))
def T8n21:XC:=.seq (.ops [zf 41 0 6,zl 42 41,zx 43 (.cmp .eql .i64 (.tmp 42) (.const (.int .i64 6))),zm 44 43,zh 45 44 true 0,zg 46 44 true (.nilc (.tmp 45)),zg 47 44 true (.fld 9 (.tmp 46)),zg 48 44 true (.load [.bool] false (.tmp 47)),zg 49 44 true (.not (.tmp 48)),zx 50 (.pick (.tmp 44) (.tmp 49) (.const (.bool false))),zm 40 50]) (.cond (.tmp 40) (.ref 2) (.ref 20))
def T8n22:XC:=.seq (.ops [zf 30 0 6,zl 31 30,zx 32 (.cmp .eql .i64 (.tmp 31) (.const (.int .i64 5))),zm 33 32,zh 34 33 true 0,zg 35 33 true (.nilc (.tmp 34)),zg 36 33 true (.fld 9 (.tmp 35)),zg 37 33 true (.load [.bool] false (.tmp 36)),zx 38 (.pick (.tmp 33) (.tmp 37) (.const (.bool false))),zm 29 38]) (.cond (.tmp 29) (.ref 1) (.ref 21))
def T8n23:XC:=.seq (.ops [zx 151 (.load [.int .i64,.int .i64,.int .i64,.int .u64,.int .u64] true (.tmp 6)),zn (.store 5 (.tmp 4) (.tmp 151)),zx 5 (.mov (.const (.int .i64 0)))]) .ret
def T8n24:XC:=.seq (.ops [zm 146 0,zf 147 1 6,zl 148 147,zx 149 (.nilc (.tmp 146)),zf 150 8 149,zn (.store 1 (.tmp 150) (.tmp 148))]) (.ref 23)
def T8n25:XC:=.seq (.blk 0 (.seq (.ops [zf 25 0 6,zl 26 25,zx 27 (.cmp .eql .i64 (.tmp 26) (.const (.int .i64 0))),zm 24 27]) (.cond (.tmp 24) (.ref 0) (.ref 22)))) (.ref 24)
def T8:Nat→XC
 | 0=>T8n0
 | 1=>T8n1
 | 2=>T8n2
 | 3=>T8n3
 | 4=>T8n4
 | 5=>T8n5
 | 6=>T8n6
 | 7=>T8n7
 | 8=>T8n8
 | 9=>T8n9
 | 10=>T8n10
 | 11=>T8n11
 | 12=>T8n12
 | 13=>T8n13
 | 14=>T8n14
 | 15=>T8n15
 | 16=>T8n16
 | 17=>T8n17
 | 18=>T8n18
 | 19=>T8n19
 | 20=>T8n20
 | 21=>T8n21
 | 22=>T8n22
 | 23=>T8n23
 | 24=>T8n24
 | 25=>T8n25
 | _=>.skip
theorem t8n0:T8 0=T8n0:=rfl
theorem t8n1:T8 1=T8n1:=rfl
theorem t8n2:T8 2=T8n2:=rfl
theorem t8n3:T8 3=T8n3:=rfl
theorem t8n4:T8 4=T8n4:=rfl
theorem t8n5:T8 5=T8n5:=rfl
theorem t8n6:T8 6=T8n6:=rfl
theorem t8n7:T8 7=T8n7:=rfl
theorem t8n8:T8 8=T8n8:=rfl
theorem t8n9:T8 9=T8n9:=rfl
theorem t8n10:T8 10=T8n10:=rfl
theorem t8n11:T8 11=T8n11:=rfl
theorem t8n12:T8 12=T8n12:=rfl
theorem t8n13:T8 13=T8n13:=rfl
theorem t8n14:T8 14=T8n14:=rfl
theorem t8n15:T8 15=T8n15:=rfl
theorem t8n16:T8 16=T8n16:=rfl
theorem t8n17:T8 17=T8n17:=rfl
theorem t8n18:T8 18=T8n18:=rfl
theorem t8n19:T8 19=T8n19:=rfl
theorem t8n20:T8 20=T8n20:=rfl
theorem t8n21:T8 21=T8n21:=rfl
theorem t8n22:T8 22=T8n22:=rfl
theorem t8n23:T8 23=T8n23:=rfl
theorem t8n24:T8 24=T8n24:=rfl
theorem t8n25:T8 25=T8n25:=rfl
def X8:XC:=.seq (.ops [zx 4 (.alloc 39 [.int .i64 0,.int .i64 0,.int .i64 0,.int .u64 0,.int .u64 0]),zx 5 (.mov (.const (.int .i64 0)))]) (.seq (.alt 18 (.seq (zm 8 1) 0 (.seq (zm 9 0) 1 (.seq (zx 10 (.nilc (.tmp 9))) 2 (.seq (zf 11 8 10) 3 (.seq (zm 15 0) 7 (.seq (zx 16 (.nilc (.tmp 15))) 8 (.seq (zf 17 0 16) 9 (.seq (zm 19 0) 11 (.seq (zx 20 (.nilc (.tmp 19))) 12 (.seq (zf 21 8 20) 13 (.seq (zl 12 11) 4 (.seq (zd 13 5 8 12) 5 (.seq (zi 14 13) 6 (.seq (zx 18 (.load [.int .u64,.int .u64,.int .u64,.int .u64,.int .u64,.int .u64,.int .u64,.int .u64] true (.tmp 17))) 10 (.seq (zl 22 21) 14 (.alt (.seq (zc 23 27 [.tmp 14,.tmp 18,.tmp 22]) 15 (.seq (zx 6 (.alloc 39 [.int .i64 0,.int .i64 0,.int .i64 0,.int .u64 0,.int .u64 0])) 16 (.seq (zn (.store 5 (.tmp 6) (.tmp 23))) 17 .done))) (.seq (zx 6 (.alloc 39 [.int .i64 0,.int .i64 0,.int .i64 0,.int .u64 0,.int .u64 0])) 16 (.seq (zc 23 27 [.tmp 14,.tmp 18,.tmp 22]) 15 (.seq (zn (.store 5 (.tmp 6) (.tmp 23))) 17 .done)))))))))))))))))))) (.ref 25))
abbrev K8:List Nat:=[0,1,4,5,6,7,8,9,10,11,12,13,14,15,16,17,18,19,20,21,22,23,24,29,40,52,63,68,86,95,132,139]
theorem n8:Tryz.f8.ntmps=152:=by kernel_rfl
theorem r8:rvOf Tryz.prog Tryz.f8.results.toList=some [RV.cell 4 5 true,RV.tmp 5]:=by kernel_rfl
theorem x8:cmpF Tryz.prog Tryz.f8=some (expand T8 27 X8):=by kernel_rfl
theorem n9:Tryz.f9.ntmps=32:=by kernel_rfl
theorem n12:Tryz.f12.ntmps=63:=by kernel_rfl
attribute [go_sem] t3n0 t3n1 t3n2 t3n3 t3n4 t3n5 t3n6 t3n7 t3n8 t3n9 t3n10 t3n11 t3n12 t3n13 t3n14 t3n15 t3n16 t3n17 t3n18 t3n19 t3n20 t3n21 t3n22 T3n0 T3n1 T3n2 T3n3 T3n4 T3n5 T3n6 T3n7 T3n8 T3n9 T3n10 T3n11 T3n12 T3n13 T3n14 T3n15 T3n16 T3n17 T3n18 T3n19 T3n20 T3n21 T3n22 X3
attribute [go_sem] t8n0 t8n1 t8n2 t8n3 t8n4 t8n5 t8n6 t8n7 t8n8 t8n9 t8n10 t8n11 t8n12 t8n13 t8n14 t8n15 t8n16 t8n17 t8n18 t8n19 t8n20 t8n21 t8n22 t8n23 t8n24 t8n25 T8n0 T8n1 T8n2 T8n3 T8n4 T8n5 T8n6 T8n7 T8n8 T8n9 T8n10 T8n11 T8n12 T8n13 T8n14 T8n15 T8n16 T8n17 T8n18 T8n19 T8n20 T8n21 T8n22 T8n23 T8n24 T8n25 X8
end Go.Proofs.YtgghmmjoplddbaaGreatDoor
