/- Printed by program: the small code of functions, and that it is theirs. -/
import Derived.Test.YtlbiogokpadaoaaGreatDoorSxStill
import Derived.Test.YtlbiogokpadaoaaGreatDoorProg
import Derived.KernelRfl
set_option linter.unusedSimpArgs false
set_option linter.unusedVariables false
set_option linter.unnecessarySimpa false
namespace Go.Proofs.YtlbiogokpadaoaaGreatDoor
open Go Go.Sx
set_option maxRecDepth 100000
def T3n0:XC:=.seq (.ops [zx 2 (.mov (.const (.bool true)))]) .ret
def T3n1:XC:=.seq (.ops [zm 16 0,zc 17 15 [.const (.int .i64 0),.tmp 16],zm 2 17]) .ret
def T3n2:XC:=.seq (.seq (.ops [zm 3 0,ze 4 3,zx 5 (.cmp .gtr .i64 (.tmp 4) (.const (.int .i64 300))),zm 6 5,zh 7 6 true 0,zg 8 6 true (.lenS (.tmp 7)),zg 9 6 true (.cmp .leq .i64 (.tmp 8) (.const (.int .i64 1024))),zx 10 (.pick (.tmp 6) (.tmp 9) (.const (.bool false))),zm 11 10,zh 12 11 false 0,zg 13 11 false (.lenS (.tmp 12)),zg 14 11 false (.cmp .gtr .i64 (.tmp 13) (.const (.int .i64 1100))),zx 15 (.pick (.tmp 11) (.const (.bool true)) (.tmp 14))]) (.cond (.tmp 15) (.ref 0) .skip)) (.ref 1)
def T3:Nat→XC
 | 0=>T3n0
 | 1=>T3n1
 | 2=>T3n2
 | _=>.skip
theorem t3n0:T3 0=T3n0:=rfl
theorem t3n1:T3 1=T3n1:=rfl
theorem t3n2:T3 2=T3n2:=rfl
def X3:XC:=.seq (.ops [zx 2 (.mov (.const (.bool false)))]) (.ref 2)
theorem n3:Tryz.f3.ntmps=18:=by kernel_rfl
theorem r3:resT Tryz.f3.results.toList=some [2]:=by kernel_rfl
theorem x3:cmpF Tryz.prog Tryz.f3=some (expand T3 4 X3):=by kernel_rfl
def T55n0:XC:=.seq (.ops [zm 18 5,zx 2 (.mov (.const (.slice none 0 0))),zm 3 18]) .ret
def T55n1:XC:=.ops [zm 33 10,zp 34 33,zm 10 34]
def T55n2:XC:=.seq (.blk 3 (.ops [zm 35 6,zm 36 10,zm 37 0,zm 38 10,zd 39 5 37 38,zi 40 39,zm 41 10,zc 42 83 [.tmp 9,.tmp 40,.tmp 41],zd 43 5 35 36,zn (.store 5 (.tmp 43) (.tmp 42))])) (.ref 1)
def T55n3:XC:=.seq (.seq (.ops [zm 29 10,zf 30 1 8,zl 31 30,zk 32 .lss 29 31]) (.cond (.tmp 32) .skip (.exit 2))) (.ref 2)
def T55n4:XC:=.seq (.ops [zf 27 0 8,zl 28 27,zm 10 28]) (.blk 2 (.loop (.ref 3)))
def T55n5:XC:=.seq (.ops [zx 9 (.alloc 126 [.bool false,.int .u64 0,.bool false,.int .u64 0,.bool false,.int .u64 0,.bool false,.int .u64 0,.bool false,.int .u64 0,.bool false,.int .u64 0,.bool false,.int .u64 0,.bool false,.int .u64 0])]) (.ref 4)
def T55n6:XC:=.seq (.blk 1 (.seq (.ops [zd 25 3 21 23,zx 26 (.load [.int .i64,.int .i64,.slc] true (.tmp 25)),zx 8 (.alloc 35 [.int .i64 0,.int .i64 0,.slice none 0 0]),zn (.store 3 (.tmp 8) (.tmp 26))]) (.ref 5))) (.ops [zp 44 23,zm 23 44])
def T55n7:XC:=.seq (.cond (.tmp 24) .skip (.exit 0)) (.ref 6)
def T55n8:XC:=.seq (.ops [zk 24 .lss 23 22]) (.ref 7)
def T55n9:XC:=.seq (.ops [zm 45 6,zm 2 45,zx 3 (.mov (.const (.int .i64 0)))]) .ret
def T55n10:XC:=.seq (.seq (.ops [zm 21 4,ze 22 21,zx 23 (.mov (.const (.int .i64 0)))]) (.blk 0 (.loop (.ref 8)))) (.ref 9)
def T55n11:XC:=.seq (.ops [zm 19 0,zc 20 82 [.tmp 19],zm 6 20]) (.ref 10)
def T55n12:XC:=.seq (.seq (.ops [zm 16 5,zx 17 (.cmp .neq .i64 (.tmp 16) (.const (.int .i64 0)))]) (.cond (.tmp 17) (.ref 0) .skip)) (.ref 11)
def T55n13:XC:=.seq (.ops [zm 12 0,zc 13 17 [.tmp 12],zm 11 13,zy 14 11 0,zy 15 11 1,zm 4 14,zm 5 15]) (.ref 12)
def T55:Nat→XC
 | 0=>T55n0
 | 1=>T55n1
 | 2=>T55n2
 | 3=>T55n3
 | 4=>T55n4
 | 5=>T55n5
 | 6=>T55n6
 | 7=>T55n7
 | 8=>T55n8
 | 9=>T55n9
 | 10=>T55n10
 | 11=>T55n11
 | 12=>T55n12
 | 13=>T55n13
 | _=>.skip
theorem t55n0:T55 0=T55n0:=rfl
theorem t55n1:T55 1=T55n1:=rfl
theorem t55n2:T55 2=T55n2:=rfl
theorem t55n3:T55 3=T55n3:=rfl
theorem t55n4:T55 4=T55n4:=rfl
theorem t55n5:T55 5=T55n5:=rfl
theorem t55n6:T55 6=T55n6:=rfl
theorem t55n7:T55 7=T55n7:=rfl
theorem t55n8:T55 8=T55n8:=rfl
theorem t55n9:T55 9=T55n9:=rfl
theorem t55n10:T55 10=T55n10:=rfl
theorem t55n11:T55 11=T55n11:=rfl
theorem t55n12:T55 12=T55n12:=rfl
theorem t55n13:T55 13=T55n13:=rfl
def X55:XC:=.seq (.ops [zx 2 (.mov (.const (.slice none 0 0))),zx 3 (.mov (.const (.int .i64 0)))]) (.ref 13)
abbrev K55:List Nat:=[0,2,3,4,5,6,8,9,10,17,21,22,23,24,32]
theorem n55:Tryz.f55.ntmps=46:=by kernel_rfl
theorem r55:resT Tryz.f55.results.toList=some [2,3]:=by kernel_rfl
theorem x55:cmpF Tryz.prog Tryz.f55=some (expand T55 15 X55):=by kernel_rfl
def T83n0:XC:=.seq (.ops [zi 15 4,zn (.store 5 (.tmp 6) (.tmp 15))]) .ret
def T83n1:XC:=.seq (.ops [zi 38 4,zn (.store 5 (.tmp 6) (.tmp 38))]) .ret
def T83n2:XC:=.seq (.ops [zm 40 0,zx 41 (.nilc (.tmp 40)),zm 44 2,zi 39 4,zx 42 (.load [.bool,.int .u64,.bool,.int .u64,.bool,.int .u64,.bool,.int .u64,.bool,.int .u64,.bool,.int .u64,.bool,.int .u64,.bool,.int .u64] true (.tmp 41)),zc 43 117 [.tmp 42],.mk none none (.still 39 (.load [.int .i64,.int .i64,.int .i64,.int .i64,.int .i64] true (.tmp 4))),zc 45 24 [.tmp 39,.tmp 43,.tmp 44],zx 46 (.fldv 1 1 false (.tmp 45)),zx 47 (.build [.int .i64 0,.int .i64 0,.int .i64 0,.int .i64 0,.int .i64 0] [(0,1,.const (.int .i64 13)),(4,1,.tmp 46)]),zn (.store 5 (.tmp 6) (.tmp 47))]) .ret
def T83n3:XC:=.seq (.seq (.ops [zm 28 0,zx 29 (.nilc (.tmp 28)),zx 30 (.load [.bool,.int .u64,.bool,.int .u64,.bool,.int .u64,.bool,.int .u64,.bool,.int .u64,.bool,.int .u64,.bool,.int .u64,.bool,.int .u64] true (.tmp 29)),zf 31 1 4,zl 32 31,zf 33 2 4,zl 34 33,zx 35 (.buildS 3 2 1 [.int .i64 0] [(0,.tmp 32),(1,.tmp 34)]),zc 36 116 [.tmp 30,.tmp 35],zx 37 (.not (.tmp 36))]) (.cond (.tmp 37) (.ref 1) .skip)) (.ref 2)
def T83n4:XC:=.seq (.ops [zi 58 4,zn (.store 5 (.tmp 6) (.tmp 58))]) .ret
def T83n5:XC:=.seq (.ops [zm 52 0,zf 53 1 4,zl 54 53,zx 55 (.build [.bool false,.int .u64 0] []),zx 56 (.nilc (.tmp 52)),zx 57 (.idxA 8 2 (.tmp 56) (.tmp 54)),zn (.store 2 (.tmp 57) (.tmp 55))]) (.ref 4)
def T83n6:XC:=.ops [zm 67 9,zx 68 (.sub 1 (.tmp 67) none (some (.const (.int .i64 1)))),zm 9 68]
def T83n7:XC:=.seq (.ops [zi 78 4,zn (.store 5 (.tmp 6) (.tmp 78))]) .ret
def T83n8:XC:=.seq (.ops [zf 70 0 4,zl 71 70,zx 72 (.cmp .lss .i64 (.tmp 71) (.const (.int .i64 2))),zm 73 72,zg 74 73 false (.fld 0 (.tmp 4)),zg 75 73 false (.load [.int .i64] false (.tmp 74)),zg 76 73 false (.cmp .gtr .i64 (.tmp 75) (.const (.int .i64 10))),zx 77 (.pick (.tmp 73) (.const (.bool true)) (.tmp 76)),zm 69 77]) (.cond (.tmp 69) (.ref 7) .skip)
def T83n9:XC:=.seq (.ops [zf 64 0 4,zl 65 64,zx 66 (.cmp .eql .i64 (.tmp 65) (.const (.int .i64 3))),zm 63 66]) (.cond (.tmp 63) (.ref 6) (.ref 8))
def T83n10:XC:=.cond (.tmp 59) (.ops [zx 9 (.mov (.const (.slice none 0 0)))]) (.ref 9)
def T83n11:XC:=.seq (.ops [zf 60 0 4,zl 61 60,zx 62 (.cmp .eql .i64 (.tmp 61) (.const (.int .i64 2))),zm 59 62]) (.ref 10)
def T83n12:XC:=.seq (.ops [zf 49 0 4,zl 50 49,zx 51 (.cmp .eql .i64 (.tmp 50) (.const (.int .i64 11))),zm 48 51]) (.cond (.tmp 48) (.ref 5) (.ref 11))
def T83n13:XC:=.seq (.ops [zi 91 4,zn (.store 5 (.tmp 6) (.tmp 91))]) .ret
def T83n14:XC:=.seq (.ops [zm 85 0,zf 86 1 4,zl 87 86,zx 88 (.build [.bool false,.int .u64 0] []),zx 89 (.nilc (.tmp 85)),zx 90 (.idxA 8 2 (.tmp 89) (.tmp 87)),zn (.store 2 (.tmp 90) (.tmp 88))]) (.ref 13)
def T83n15:XC:=.seq (.ops [zf 120 1 4,zl 121 120,zm 122 11,zx 123 (.build [.int .i64 0,.int .i64 0,.int .i64 0,.int .i64 0,.int .i64 0] [(0,1,.const (.int .i64 2)),(1,1,.tmp 121),(4,1,.tmp 122)]),zn (.store 5 (.tmp 6) (.tmp 123))]) .ret
def T83n16:XC:=.seq (.ops [zf 109 0 4,zl 110 109,zx 111 (.cmp .neq .i64 (.tmp 110) (.const (.int .i64 2))),zm 112 111,zh 113 112 true 11,zg 114 112 true (.cmp .geq .i64 (.tmp 113) (.const (.int .i64 (-2147483648)))),zx 115 (.pick (.tmp 112) (.tmp 114) (.const (.bool false))),zm 116 115,zh 117 116 true 11,zg 118 116 true (.cmp .leq .i64 (.tmp 117) (.const (.int .i64 2147483647))),zx 119 (.pick (.tmp 116) (.tmp 118) (.const (.bool false)))]) (.cond (.tmp 119) (.ref 15) .skip)
def T83n17:XC:=.seq (.ops [zi 124 4,zn (.store 5 (.tmp 6) (.tmp 124))]) .ret
def T83n18:XC:=.seq (.seq (.ops [zm 107 10,zx 108 (.conv .i64 (.tmp 107)),zm 11 108]) (.ref 16)) (.ref 17)
def T83n19:XC:=.seq (.ops [zm 100 0,zf 101 1 4,zl 102 101,zm 103 10,zx 104 (.build [.bool false,.int .u64 0] [(0,1,.const (.bool true)),(1,1,.tmp 103)]),zx 105 (.nilc (.tmp 100)),zx 106 (.idxA 8 2 (.tmp 105) (.tmp 102)),zn (.store 2 (.tmp 106) (.tmp 104))]) (.ref 18)
def T83n20:XC:=.seq (.ops [zm 93 0,zx 94 (.nilc (.tmp 93)),zm 97 2,zi 92 4,zx 95 (.load [.bool,.int .u64,.bool,.int .u64,.bool,.int .u64,.bool,.int .u64,.bool,.int .u64,.bool,.int .u64,.bool,.int .u64,.bool,.int .u64] true (.tmp 94)),zc 96 117 [.tmp 95],.mk none none (.still 92 (.load [.int .i64,.int .i64,.int .i64,.int .i64,.int .i64] true (.tmp 4))),zc 98 24 [.tmp 92,.tmp 96,.tmp 97],zx 99 (.fldv 3 1 false (.tmp 98)),zm 10 99]) (.ref 19)
def T83n21:XC:=.seq (.seq (.ops [zm 79 0,zx 80 (.nilc (.tmp 79)),zx 81 (.load [.bool,.int .u64,.bool,.int .u64,.bool,.int .u64,.bool,.int .u64,.bool,.int .u64,.bool,.int .u64,.bool,.int .u64,.bool,.int .u64] true (.tmp 80)),zm 82 9,zc 83 116 [.tmp 81,.tmp 82],zx 84 (.not (.tmp 83))]) (.cond (.tmp 84) (.ref 14) .skip)) (.ref 20)
def T83n22:XC:=.seq (.blk 0 (.seq (.ops [zm 27 8,zm 26 27]) (.cond (.tmp 26) (.ref 3) (.ref 12)))) (.ref 21)
def T83n23:XC:=.seq (.ops [zf 21 2 4,zl 22 21,zf 23 3 4,zl 24 23,zx 25 (.buildS 3 2 1 [.int .i64 0] [(0,.tmp 22),(1,.tmp 24)]),zm 9 25]) (.ref 22)
def T83n24:XC:=.seq (.ops [zi 17 4,zc 18 84 [.tmp 17],zm 16 18,zy 19 16 0,zy 20 16 1,zm 7 19,zm 8 20]) (.ref 23)
def T83n25:XC:=.seq (.seq (.ops [zi 12 4,zc 13 21 [.tmp 12],zx 14 (.not (.tmp 13))]) (.cond (.tmp 14) (.ref 0) .skip)) (.ref 24)
def T83:Nat→XC
 | 0=>T83n0
 | 1=>T83n1
 | 2=>T83n2
 | 3=>T83n3
 | 4=>T83n4
 | 5=>T83n5
 | 6=>T83n6
 | 7=>T83n7
 | 8=>T83n8
 | 9=>T83n9
 | 10=>T83n10
 | 11=>T83n11
 | 12=>T83n12
 | 13=>T83n13
 | 14=>T83n14
 | 15=>T83n15
 | 16=>T83n16
 | 17=>T83n17
 | 18=>T83n18
 | 19=>T83n19
 | 20=>T83n20
 | 21=>T83n21
 | 22=>T83n22
 | 23=>T83n23
 | 24=>T83n24
 | 25=>T83n25
 | _=>.skip
theorem t83n0:T83 0=T83n0:=rfl
theorem t83n1:T83 1=T83n1:=rfl
theorem t83n2:T83 2=T83n2:=rfl
theorem t83n3:T83 3=T83n3:=rfl
theorem t83n4:T83 4=T83n4:=rfl
theorem t83n5:T83 5=T83n5:=rfl
theorem t83n6:T83 6=T83n6:=rfl
theorem t83n7:T83 7=T83n7:=rfl
theorem t83n8:T83 8=T83n8:=rfl
theorem t83n9:T83 9=T83n9:=rfl
theorem t83n10:T83 10=T83n10:=rfl
theorem t83n11:T83 11=T83n11:=rfl
theorem t83n12:T83 12=T83n12:=rfl
theorem t83n13:T83 13=T83n13:=rfl
theorem t83n14:T83 14=T83n14:=rfl
theorem t83n15:T83 15=T83n15:=rfl
theorem t83n16:T83 16=T83n16:=rfl
theorem t83n17:T83 17=T83n17:=rfl
theorem t83n18:T83 18=T83n18:=rfl
theorem t83n19:T83 19=T83n19:=rfl
theorem t83n20:T83 20=T83n20:=rfl
theorem t83n21:T83 21=T83n21:=rfl
theorem t83n22:T83 22=T83n22:=rfl
theorem t83n23:T83 23=T83n23:=rfl
theorem t83n24:T83 24=T83n24:=rfl
theorem t83n25:T83 25=T83n25:=rfl
def X83:XC:=.seq (.ops [zx 4 (.box 41 5 (.tmp 1)),zx 6 (.alloc 41 [.int .i64 0,.int .i64 0,.int .i64 0,.int .i64 0,.int .i64 0])]) (.ref 25)
abbrev K83:List Nat:=[0,1,2,4,6,8,9,10,11,14,26,37,48,59,63,69,84,119]
theorem n83:Tryz.f83.ntmps=125:=by kernel_rfl
theorem r83:rvOf Tryz.prog Tryz.f83.results.toList=some [RV.cell 6 5 true]:=by kernel_rfl
theorem x83:cmpF Tryz.prog Tryz.f83=some (expand T83 27 X83):=by kernel_rfl
def T116n0:XC:=.seq (.ops [zm 5 1,zx 6 (.mkfn (.func 145) [] [.tmp 2]),zc 7 144 [.tmp 5,.tmp 6],zx 8 (.not (.tmp 7)),zm 4 8]) .ret
def T116:Nat→XC
 | 0=>T116n0
 | _=>.skip
theorem t116n0:T116 0=T116n0:=rfl
def X116:XC:=.seq (.ops [zx 2 (.box 126 16 (.tmp 0)),zx 4 (.mov (.const (.bool false)))]) (.ref 0)
abbrev K116:List Nat:=[0,1,2,4]
theorem n116:Tryz.f116.ntmps=9:=by kernel_rfl
theorem r116:resT Tryz.f116.results.toList=some [4]:=by kernel_rfl
theorem x116:cmpF Tryz.prog Tryz.f116=some (expand T116 2 X116):=by kernel_rfl
def T117n0:XC:=.ops [zm 10 3,zf 11 1 4,zx 12 (.load [.int .u64] false (.tmp 11)),zx 13 (.idxA 8 1 (.tmp 2) (.tmp 10)),zn (.store 1 (.tmp 13) (.tmp 12))]
def T117n1:XC:=.seq (.blk 1 (.seq (.ops [zm 8 6,zx 9 (.ixA 8 2 true (.tmp 5) (.tmp 6)),zx 4 (.alloc 124 [.bool false,.int .u64 0]),zm 3 8,zn (.store 2 (.tmp 4) (.tmp 9))]) (.ref 0))) (.ops [zp 14 6,zm 6 14])
def T117n2:XC:=.seq (.cond (.tmp 7) .skip (.exit 0)) (.ref 1)
def T117n3:XC:=.seq (.ops [zx 7 (.cmp .lss .i64 (.tmp 6) (.const (.int .i64 8)))]) (.ref 2)
def T117n4:XC:=.seq (.ops [zx 15 (.load [.int .u64,.int .u64,.int .u64,.int .u64,.int .u64,.int .u64,.int .u64,.int .u64] true (.tmp 2)),zn (.store 8 (.tmp 2) (.tmp 15))]) .ret
def T117n5:XC:=.seq (.seq (.ops [zx 5 (.load [.bool,.int .u64,.bool,.int .u64,.bool,.int .u64,.bool,.int .u64,.bool,.int .u64,.bool,.int .u64,.bool,.int .u64,.bool,.int .u64] true (.tmp 1)),zx 6 (.mov (.const (.int .i64 0)))]) (.blk 0 (.loop (.ref 3)))) (.ref 4)
def T117:Nat→XC
 | 0=>T117n0
 | 1=>T117n1
 | 2=>T117n2
 | 3=>T117n3
 | 4=>T117n4
 | 5=>T117n5
 | _=>.skip
theorem t117n0:T117 0=T117n0:=rfl
theorem t117n1:T117 1=T117n1:=rfl
theorem t117n2:T117 2=T117n2:=rfl
theorem t117n3:T117 3=T117n3:=rfl
theorem t117n4:T117 4=T117n4:=rfl
theorem t117n5:T117 5=T117n5:=rfl
def X117:XC:=.seq (.ops [zx 1 (.box 126 16 (.tmp 0)),zx 2 (.alloc 50 [.int .u64 0,.int .u64 0,.int .u64 0,.int .u64 0,.int .u64 0,.int .u64 0,.int .u64 0,.int .u64 0])]) (.ref 5)
abbrev K117:List Nat:=[0,1,2,3,4,5,6,7]
theorem n117:Tryz.f117.ntmps=16:=by kernel_rfl
theorem r117:rvOf Tryz.prog Tryz.f117.results.toList=some [RV.cell 2 8 true]:=by kernel_rfl
theorem x117:cmpF Tryz.prog Tryz.f117=some (expand T117 7 X117):=by kernel_rfl
def T144n0:XC:=.seq (.ops [zm 5 0,zm 6 1,zc 7 162 [.tmp 5,.tmp 6],zx 8 (.cmp .geq .i64 (.tmp 7) (.const (.int .i64 0))),zm 4 8]) .ret
def T144:Nat→XC
 | 0=>T144n0
 | _=>.skip
theorem t144n0:T144 0=T144n0:=rfl
def X144:XC:=.seq (.ops [zx 4 (.mov (.const (.bool false)))]) (.ref 0)
abbrev K144:List Nat:=[0,1,4]
theorem n144:Tryz.f144.ntmps=9:=by kernel_rfl
theorem r144:resT Tryz.f144.results.toList=some [4]:=by kernel_rfl
theorem x144:cmpF Tryz.prog Tryz.f144=some (expand T144 2 X144):=by kernel_rfl
def T145n0:XC:=.seq (.ops [zm 4 0,zx 5 (.idxA 8 2 (.tmp 1) (.tmp 4)),zx 6 (.load [.bool,.int .u64] true (.tmp 5)),zx 7 (.build [.bool false,.int .u64 0] []),zx 8 (.eqa false [.bool,.int .u64] (.tmp 6) (.tmp 7)),zm 3 8]) .ret
def T145:Nat→XC
 | 0=>T145n0
 | _=>.skip
theorem t145n0:T145 0=T145n0:=rfl
def X145:XC:=.seq (.ops [zx 3 (.mov (.const (.bool false)))]) (.ref 0)
abbrev K145:List Nat:=[0,1,3]
theorem n145:Tryz.f145.ntmps=9:=by kernel_rfl
theorem r145:resT Tryz.f145.results.toList=some [3]:=by kernel_rfl
theorem x145:cmpF Tryz.prog Tryz.f145=some (expand T145 2 X145):=by kernel_rfl
def T162n0:XC:=.seq (.ops [zm 17 5,zm 4 17]) .ret
def T162n1:XC:=.seq (.ops [zm 11 1,zm 12 0,zm 13 5,zd 14 1 12 13,zl 15 14,.mk (some 16) none (.callv (.tmp 11) [.tmp 15])]) (.cond (.tmp 16) (.ref 0) .skip)
def T162n2:XC:=.seq (.blk 1 (.seq (.ops [zm 10 8,zm 5 10]) (.ref 1))) (.ops [zp 18 8,zm 8 18])
def T162n3:XC:=.seq (.cond (.tmp 9) .skip (.exit 0)) (.ref 2)
def T162n4:XC:=.seq (.ops [zk 9 .lss 8 7]) (.ref 3)
def T162n5:XC:=.seq (.ops [zx 4 (.mov (.const (.int .i64 (-1))))]) .ret
def T162n6:XC:=.seq (.seq (.ops [zm 6 0,ze 7 6,zx 8 (.mov (.const (.int .i64 0)))]) (.blk 0 (.loop (.ref 4)))) (.ref 5)
def T162:Nat→XC
 | 0=>T162n0
 | 1=>T162n1
 | 2=>T162n2
 | 3=>T162n3
 | 4=>T162n4
 | 5=>T162n5
 | 6=>T162n6
 | _=>.skip
theorem t162n0:T162 0=T162n0:=rfl
theorem t162n1:T162 1=T162n1:=rfl
theorem t162n2:T162 2=T162n2:=rfl
theorem t162n3:T162 3=T162n3:=rfl
theorem t162n4:T162 4=T162n4:=rfl
theorem t162n5:T162 5=T162n5:=rfl
theorem t162n6:T162 6=T162n6:=rfl
def X162:XC:=.seq (.ops [zx 4 (.mov (.const (.int .i64 0)))]) (.ref 6)
abbrev K162:List Nat:=[0,1,4,5,7,8,9,16]
theorem n162:Tryz.f162.ntmps=19:=by kernel_rfl
theorem r162:resT Tryz.f162.results.toList=some [4]:=by kernel_rfl
theorem x162:cmpF Tryz.prog Tryz.f162=some (expand T162 8 X162):=by kernel_rfl
attribute [go_sem] t3n0 t3n1 t3n2 T3n0 T3n1 T3n2 X3
attribute [go_sem] t55n0 t55n1 t55n2 t55n3 t55n4 t55n5 t55n6 t55n7 t55n8 t55n9 t55n10 t55n11 t55n12 t55n13 T55n0 T55n1 T55n2 T55n3 T55n4 T55n5 T55n6 T55n7 T55n8 T55n9 T55n10 T55n11 T55n12 T55n13 X55
attribute [go_sem] t83n0 t83n1 t83n2 t83n3 t83n4 t83n5 t83n6 t83n7 t83n8 t83n9 t83n10 t83n11 t83n12 t83n13 t83n14 t83n15 t83n16 t83n17 t83n18 t83n19 t83n20 t83n21 t83n22 t83n23 t83n24 t83n25 T83n0 T83n1 T83n2 T83n3 T83n4 T83n5 T83n6 T83n7 T83n8 T83n9 T83n10 T83n11 T83n12 T83n13 T83n14 T83n15 T83n16 T83n17 T83n18 T83n19 T83n20 T83n21 T83n22 T83n23 T83n24 T83n25 X83
attribute [go_sem] t116n0 T116n0 X116
attribute [go_sem] t117n0 t117n1 t117n2 t117n3 t117n4 t117n5 T117n0 T117n1 T117n2 T117n3 T117n4 T117n5 X117
attribute [go_sem] t144n0 T144n0 X144
attribute [go_sem] t145n0 T145n0 X145
attribute [go_sem] t162n0 t162n1 t162n2 t162n3 t162n4 t162n5 t162n6 T162n0 T162n1 T162n2 T162n3 T162n4 T162n5 T162n6 X162
end Go.Proofs.YtlbiogokpadaoaaGreatDoor
