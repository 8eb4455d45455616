/- Printed by program: the small code of functions, and that it is theirs. -/
import Derived.Test.YtaiajnehnjnadaaGreatDoorSxStill
import Derived.Test.YtaiajnehnjnadaaGreatDoorProg
import Derived.KernelRfl
set_option linter.unusedSimpArgs false
set_option linter.unusedVariables false
set_option linter.unnecessarySimpa false
namespace Go.Proofs.YtaiajnehnjnadaaGreatDoor
open Go Go.Sx
set_option maxRecDepth 100000
def T21n0:XC:=.seq (.ops [zx 18 (.build [.int .i64 0,.int .i64 0,.int .i64 0,.int .i64 0,.int .i64 0] []),zn (.store 5 (.tmp 2) (.tmp 18)),zx 3 (.mov (.const (.int .i64 2)))]) .ret
def T21n1:XC:=.seq (.ops [zx 37 (.build [.int .i64 0,.int .i64 0,.int .i64 0,.int .i64 0,.int .i64 0] []),zn (.store 5 (.tmp 2) (.tmp 37)),zx 3 (.mov (.const (.int .i64 2)))]) .ret
def T21n2:XC:=.ops [zm 38 5,zm 39 7,zx 40 (.buildS 3 1 1 [.int .i64 0] [(0,.tmp 39)]),zx 41 (.app 3 1 8 (.tmp 38) (.tmp 40)),zm 5 41]
def T21n3:XC:=.seq (.seq (.ops [zm 35 8,zx 36 (.not (.tmp 35))]) (.cond (.tmp 36) (.ref 1) .skip)) (.ref 2)
def T21n4:XC:=.ops [zm 25 6,zp 26 25,zm 6 26]
def T21n5:XC:=.seq (.blk 1 (.seq (.ops [zm 28 4,zm 29 6,zd 30 1 28 29,zx 31 (.load [.str] false (.tmp 30)),zc 32 37 [.tmp 31],zm 27 32,zy 33 27 0,zy 34 27 1,zm 7 33,zm 8 34]) (.ref 3))) (.ref 4)
def T21n6:XC:=.seq (.seq (.ops [zm 21 6,zm 22 4,ze 23 22,zk 24 .lss 21 23]) (.cond (.tmp 24) .skip (.exit 0))) (.ref 5)
def T21n7:XC:=.seq (.ops [zi 71 9,zn (.store 5 (.tmp 2) (.tmp 71)),zx 3 (.mov (.const (.int .i64 0)))]) .ret
def T21n8:XC:=.seq (.ops [zi 67 9,zc 68 38 [.tmp 67],zm 69 0,zx 70 (.eqs .eql (.tmp 68) (.tmp 69))]) (.cond (.tmp 70) (.ref 7) .skip)
def T21n9:XC:=.seq (.ops [zm 51 5,zx 52 (.idx 1 (.tmp 51) (.const (.int .i64 0))),zl 53 52,zm 54 5,zx 55 (.idx 1 (.tmp 54) (.const (.int .i64 1))),zl 56 55,zm 57 5,zx 58 (.idx 1 (.tmp 57) (.const (.int .i64 2))),zl 59 58,zm 60 5,zx 61 (.idx 1 (.tmp 60) (.const (.int .i64 3))),zl 62 61,zm 63 5,zx 64 (.idx 1 (.tmp 63) (.const (.int .i64 4))),zl 65 64,zx 66 (.build [.int .i64 0,.int .i64 0,.int .i64 0,.int .i64 0,.int .i64 0] [(0,1,.tmp 53),(1,1,.tmp 56),(2,1,.tmp 59),(3,1,.tmp 62),(4,1,.tmp 65)]),zx 9 (.alloc 43 [.int .i64 0,.int .i64 0,.int .i64 0,.int .i64 0,.int .i64 0]),zn (.store 5 (.tmp 9) (.tmp 66))]) (.ref 8)
def T21n10:XC:=.ops [zm 102 14,zp 103 102,zm 14 103]
def T21n11:XC:=.seq (.ops [zm 97 5,zm 98 14,zd 99 1 97 98,zl 100 99,zf 101 1 13,zn (.store 1 (.tmp 101) (.tmp 100))]) (.ref 10)
def T21n12:XC:=.ops [zm 117 14,zp 118 117,zm 14 118]
def T21n13:XC:=.seq (.ops [zm 112 5,zm 113 14,zd 114 1 112 113,zl 115 114,zf 116 2 13,zn (.store 1 (.tmp 116) (.tmp 115))]) (.ref 12)
def T21n14:XC:=.ops [zm 132 14,zp 133 132,zm 14 133]
def T21n15:XC:=.seq (.ops [zm 127 5,zm 128 14,zd 129 1 127 128,zl 130 129,zf 131 3 13,zn (.store 1 (.tmp 131) (.tmp 130))]) (.ref 14)
def T21n16:XC:=.ops [zm 142 5,zm 143 14,zd 144 1 142 143,zl 145 144,zf 146 4 13,zn (.store 1 (.tmp 146) (.tmp 145))]
def T21n17:XC:=.seq (.ops [zi 151 13,zn (.store 5 (.tmp 2) (.tmp 151)),zx 3 (.mov (.const (.int .i64 0)))]) .ret
def T21n18:XC:=.seq (.ops [zi 147 13,zc 148 38 [.tmp 147],zm 149 0,zx 150 (.eqs .eql (.tmp 148) (.tmp 149))]) (.cond (.tmp 150) (.ref 17) .skip)
def T21n19:XC:=.seq (.seq (.ops [zf 134 4 11,zx 135 (.load [.bool] false (.tmp 134)),zm 136 135,zh 137 136 true 14,zh 138 136 true 5,zg 139 136 true (.lenS (.tmp 138)),zg 140 136 true (.cmp .lss .i64 (.tmp 137) (.tmp 139)),zx 141 (.pick (.tmp 136) (.tmp 140) (.const (.bool false)))]) (.cond (.tmp 141) (.ref 16) .skip)) (.ref 18)
def T21n20:XC:=.seq (.seq (.ops [zf 119 3 11,zx 120 (.load [.bool] false (.tmp 119)),zm 121 120,zh 122 121 true 14,zh 123 121 true 5,zg 124 121 true (.lenS (.tmp 123)),zg 125 121 true (.cmp .lss .i64 (.tmp 122) (.tmp 124)),zx 126 (.pick (.tmp 121) (.tmp 125) (.const (.bool false)))]) (.cond (.tmp 126) (.ref 15) .skip)) (.ref 19)
def T21n21:XC:=.seq (.seq (.ops [zf 104 2 11,zx 105 (.load [.bool] false (.tmp 104)),zm 106 105,zh 107 106 true 14,zh 108 106 true 5,zg 109 106 true (.lenS (.tmp 108)),zg 110 106 true (.cmp .lss .i64 (.tmp 107) (.tmp 109)),zx 111 (.pick (.tmp 106) (.tmp 110) (.const (.bool false)))]) (.cond (.tmp 111) (.ref 13) .skip)) (.ref 20)
def T21n22:XC:=.seq (.seq (.ops [zf 89 1 11,zx 90 (.load [.bool] false (.tmp 89)),zm 91 90,zh 92 91 true 14,zh 93 91 true 5,zg 94 91 true (.lenS (.tmp 93)),zg 95 91 true (.cmp .lss .i64 (.tmp 92) (.tmp 94)),zx 96 (.pick (.tmp 91) (.tmp 95) (.const (.bool false)))]) (.cond (.tmp 96) (.ref 11) .skip)) (.ref 21)
def T21n23:XC:=.seq (.ops [zx 14 (.mov (.const (.int .i64 0)))]) (.ref 22)
def T21n24:XC:=.seq (.ops [zm 87 10,zx 88 (.build [.int .i64 0,.int .i64 0,.int .i64 0,.int .i64 0,.int .i64 0] [(0,1,.tmp 87)]),zx 13 (.alloc 43 [.int .i64 0,.int .i64 0,.int .i64 0,.int .i64 0,.int .i64 0]),zn (.store 5 (.tmp 13) (.tmp 88))]) (.ref 23)
def T21n25:XC:=.seq (.seq (.ops [zf 81 0 11,zx 82 (.load [.str] false (.tmp 81)),zm 83 4,zx 84 (.idx 1 (.tmp 83) (.const (.int .i64 0))),zx 85 (.load [.str] false (.tmp 84)),zx 86 (.eqs .neq (.tmp 82) (.tmp 85))]) (.cond (.tmp 86) (.exit 3) .skip)) (.ref 24)
def T21n26:XC:=.ops [zm 74 10,zp 75 74,zm 10 75]
def T21n27:XC:=.seq (.blk 3 (.seq (.ops [zm 77 10,zc 78 39 [.tmp 77],zm 76 78,zy 79 76 0,zy 80 76 1,zx 11 (.alloc 81 [.string (ByteArray.mk (Array.mk [])),.bool false,.bool false,.bool false,.bool false]),zn (.store 5 (.tmp 11) (.tmp 79)),zm 12 80]) (.ref 25))) (.ref 26)
def T21n28:XC:=.seq (.seq (.ops [zm 72 10,zx 73 (.cmp .leq .i64 (.tmp 72) (.const (.int .i64 18)))]) (.cond (.tmp 73) .skip (.exit 2))) (.ref 27)
def T21n29:XC:=.seq (.ops [zx 152 (.build [.int .i64 0,.int .i64 0,.int .i64 0,.int .i64 0,.int .i64 0] []),zn (.store 5 (.tmp 2) (.tmp 152)),zx 3 (.mov (.const (.int .i64 2)))]) .ret
def T21n30:XC:=.seq (.seq (.ops [zx 10 (.mov (.const (.int .i64 1)))]) (.blk 2 (.loop (.ref 28)))) (.ref 29)
def T21n31:XC:=.seq (.seq (.ops [zm 42 4,zx 43 (.idx 1 (.tmp 42) (.const (.int .i64 0))),zx 44 (.load [.str] false (.tmp 43)),zx 45 (.eqs .eql (.tmp 44) (.const (.string (ByteArray.mk (Array.mk [UInt8.ofNat 114,UInt8.ofNat 97,UInt8.ofNat 119]))))),zm 46 45,zh 47 46 true 5,zg 48 46 true (.lenS (.tmp 47)),zg 49 46 true (.cmp .eql .i64 (.tmp 48) (.const (.int .i64 5))),zx 50 (.pick (.tmp 46) (.tmp 49) (.const (.bool false)))]) (.cond (.tmp 50) (.ref 9) .skip)) (.ref 30)
def T21n32:XC:=.seq (.seq (.ops [zx 6 (.mov (.const (.int .i64 1)))]) (.blk 0 (.loop (.ref 6)))) (.ref 31)
def T21n33:XC:=.seq (.ops [zx 5 (.mov (.const (.slice none 0 0)))]) (.ref 32)
def T21n34:XC:=.seq (.ops [zm 19 0,zc 20 36 [.tmp 19],zm 4 20]) (.ref 33)
def T21n35:XC:=.seq (.seq (.ops [zm 15 0,zx 16 (.lenT (.tmp 15)),zx 17 (.cmp .gtr .i64 (.tmp 16) (.const (.int .i64 200)))]) (.cond (.tmp 17) (.ref 0) .skip)) (.ref 34)
def T21:Nat→XC
 | 0=>T21n0
 | 1=>T21n1
 | 2=>T21n2
 | 3=>T21n3
 | 4=>T21n4
 | 5=>T21n5
 | 6=>T21n6
 | 7=>T21n7
 | 8=>T21n8
 | 9=>T21n9
 | 10=>T21n10
 | 11=>T21n11
 | 12=>T21n12
 | 13=>T21n13
 | 14=>T21n14
 | 15=>T21n15
 | 16=>T21n16
 | 17=>T21n17
 | 18=>T21n18
 | 19=>T21n19
 | 20=>T21n20
 | 21=>T21n21
 | 22=>T21n22
 | 23=>T21n23
 | 24=>T21n24
 | 25=>T21n25
 | 26=>T21n26
 | 27=>T21n27
 | 28=>T21n28
 | 29=>T21n29
 | 30=>T21n30
 | 31=>T21n31
 | 32=>T21n32
 | 33=>T21n33
 | 34=>T21n34
 | 35=>T21n35
 | _=>.skip
theorem t21n0:T21 0=T21n0:=rfl
theorem t21n1:T21 1=T21n1:=rfl
theorem t21n2:T21 2=T21n2:=rfl
theorem t21n3:T21 3=T21n3:=rfl
theorem t21n4:T21 4=T21n4:=rfl
theorem t21n5:T21 5=T21n5:=rfl
theorem t21n6:T21 6=T21n6:=rfl
theorem t21n7:T21 7=T21n7:=rfl
theorem t21n8:T21 8=T21n8:=rfl
theorem t21n9:T21 9=T21n9:=rfl
theorem t21n10:T21 10=T21n10:=rfl
theorem t21n11:T21 11=T21n11:=rfl
theorem t21n12:T21 12=T21n12:=rfl
theorem t21n13:T21 13=T21n13:=rfl
theorem t21n14:T21 14=T21n14:=rfl
theorem t21n15:T21 15=T21n15:=rfl
theorem t21n16:T21 16=T21n16:=rfl
theorem t21n17:T21 17=T21n17:=rfl
theorem t21n18:T21 18=T21n18:=rfl
theorem t21n19:T21 19=T21n19:=rfl
theorem t21n20:T21 20=T21n20:=rfl
theorem t21n21:T21 21=T21n21:=rfl
theorem t21n22:T21 22=T21n22:=rfl
theorem t21n23:T21 23=T21n23:=rfl
theorem t21n24:T21 24=T21n24:=rfl
theorem t21n25:T21 25=T21n25:=rfl
theorem t21n26:T21 26=T21n26:=rfl
theorem t21n27:T21 27=T21n27:=rfl
theorem t21n28:T21 28=T21n28:=rfl
theorem t21n29:T21 29=T21n29:=rfl
theorem t21n30:T21 30=T21n30:=rfl
theorem t21n31:T21 31=T21n31:=rfl
theorem t21n32:T21 32=T21n32:=rfl
theorem t21n33:T21 33=T21n33:=rfl
theorem t21n34:T21 34=T21n34:=rfl
theorem t21n35:T21 35=T21n35:=rfl
def X21:XC:=.seq (.ops [zx 2 (.alloc 43 [.int .i64 0,.int .i64 0,.int .i64 0,.int .i64 0,.int .i64 0]),zx 3 (.mov (.const (.int .i64 0)))]) (.ref 35)
abbrev K21:List Nat:=[0,2,3,4,5,6,7,8,9,10,11,13,14,17,24,36,50,70,73,86,96,111,126,141,150]
theorem n21:Tryz.f21.ntmps=153:=by kernel_rfl
theorem r21:rvOf Tryz.prog Tryz.f21.results.toList=some [RV.cell 2 5 true,RV.tmp 3]:=by kernel_rfl
theorem x21:cmpF Tryz.prog Tryz.f21=some (expand T21 37 X21):=by kernel_rfl
def T22n0:XC:=.seq (.ops [zm 11 4,zm 12 11,zg 13 12 true (.fld 1 (.tmp 3)),zg 14 12 true (.load [.bool] false (.tmp 13)),zg 15 12 true (.not (.tmp 14)),zh 16 12 true 15,zg 17 16 false (.fld 1 (.tmp 1)),zg 18 16 false (.load [.int .i64] false (.tmp 17)),.mk (some 19) (some (16,false)) (.call 40 [.tmp 18]),zg 20 12 true (.pick (.tmp 16) (.const (.bool true)) (.tmp 19)),zx 21 (.pick (.tmp 12) (.tmp 20) (.const (.bool false))),zm 22 21,zg 23 22 true (.fld 2 (.tmp 3)),zg 24 22 true (.load [.bool] false (.tmp 23)),zg 25 22 true (.not (.tmp 24)),zh 26 22 true 25,zg 27 26 false (.fld 2 (.tmp 1)),zg 28 26 false (.load [.int .i64] false (.tmp 27)),.mk (some 29) (some (26,false)) (.call 40 [.tmp 28]),zg 30 22 true (.pick (.tmp 26) (.const (.bool true)) (.tmp 29)),zx 31 (.pick (.tmp 22) (.tmp 30) (.const (.bool false))),zm 32 31,zg 33 32 true (.fld 3 (.tmp 3)),zg 34 32 true (.load [.bool] false (.tmp 33)),zg 35 32 true (.not (.tmp 34)),zh 36 32 true 35,zg 37 36 false (.fld 3 (.tmp 1)),zg 38 36 false (.load [.int .i64] false (.tmp 37)),.mk (some 39) (some (36,false)) (.call 40 [.tmp 38]),zg 40 32 true (.pick (.tmp 36) (.const (.bool true)) (.tmp 39)),zx 41 (.pick (.tmp 32) (.tmp 40) (.const (.bool false))),zm 2 41]) .ret
def T22n1:XC:=.seq (.ops [zf 6 0 1,zl 7 6,zc 8 39 [.tmp 7],zm 5 8,zy 9 5 0,zy 10 5 1,zx 3 (.alloc 81 [.string (ByteArray.mk (Array.mk [])),.bool false,.bool false,.bool false,.bool false]),zn (.store 5 (.tmp 3) (.tmp 9)),zm 4 10]) (.ref 0)
def T22:Nat→XC
 | 0=>T22n0
 | 1=>T22n1
 | _=>.skip
theorem t22n0:T22 0=T22n0:=rfl
theorem t22n1:T22 1=T22n1:=rfl
def X22:XC:=.seq (.ops [zx 1 (.box 43 5 (.tmp 0)),zx 2 (.mov (.const (.bool false)))]) (.ref 1)
abbrev K22:List Nat:=[0,1,2,3,4]
theorem n22:Tryz.f22.ntmps=42:=by kernel_rfl
theorem r22:resT Tryz.f22.results.toList=some [2]:=by kernel_rfl
theorem x22:cmpF Tryz.prog Tryz.f22=some (expand T22 3 X22):=by kernel_rfl
def T36n0:XC:=.seq (.ops [zm 16 3,zm 17 4,zx 18 (.buildS 9 1 1 [.string (ByteArray.mk (Array.mk []))] [(0,.tmp 17)]),zx 19 (.app 9 1 16 (.tmp 16) (.tmp 18)),zm 3 19]) (.ops [zx 4 (.mov (.const (.string (ByteArray.mk (Array.mk [])))))])
def T36n1:XC:=.ops [zm 20 4,zm 21 0,zm 22 5,zm 23 5,zp 24 23,zx 25 (.subT (.tmp 21) (some (.tmp 22)) (some (.tmp 24))),zx 26 (.cat (.tmp 20) (.tmp 25)),zm 4 26]
def T36n2:XC:=.ops [zm 10 5,zp 11 10,zm 5 11]
def T36n3:XC:=.seq (.blk 1 (.seq (.ops [zm 12 0,zm 13 5,zx 14 (.ixT (.tmp 12) (.tmp 13)),zx 15 (.cmp .eql .u8 (.tmp 14) (.const (.int .u8 32)))]) (.cond (.tmp 15) (.ref 0) (.ref 1)))) (.ref 2)
def T36n4:XC:=.seq (.seq (.ops [zm 6 5,zm 7 0,zx 8 (.lenT (.tmp 7)),zk 9 .lss 6 8]) (.cond (.tmp 9) .skip (.exit 0))) (.ref 3)
def T36n5:XC:=.seq (.ops [zm 27 3,zm 28 4,zx 29 (.buildS 9 1 1 [.string (ByteArray.mk (Array.mk []))] [(0,.tmp 28)]),zx 30 (.app 9 1 16 (.tmp 27) (.tmp 29)),zm 2 30]) .ret
def T36n6:XC:=.seq (.seq (.ops [zx 5 (.mov (.const (.int .i64 0)))]) (.blk 0 (.loop (.ref 4)))) (.ref 5)
def T36n7:XC:=.seq (.ops [zx 4 (.mov (.const (.string (ByteArray.mk (Array.mk [])))))]) (.ref 6)
def T36n8:XC:=.seq (.ops [zx 3 (.mov (.const (.slice none 0 0)))]) (.ref 7)
def T36:Nat→XC
 | 0=>T36n0
 | 1=>T36n1
 | 2=>T36n2
 | 3=>T36n3
 | 4=>T36n4
 | 5=>T36n5
 | 6=>T36n6
 | 7=>T36n7
 | 8=>T36n8
 | _=>.skip
theorem t36n0:T36 0=T36n0:=rfl
theorem t36n1:T36 1=T36n1:=rfl
theorem t36n2:T36 2=T36n2:=rfl
theorem t36n3:T36 3=T36n3:=rfl
theorem t36n4:T36 4=T36n4:=rfl
theorem t36n5:T36 5=T36n5:=rfl
theorem t36n6:T36 6=T36n6:=rfl
theorem t36n7:T36 7=T36n7:=rfl
theorem t36n8:T36 8=T36n8:=rfl
def X36:XC:=.seq (.ops [zx 2 (.mov (.const (.slice none 0 0)))]) (.ref 8)
abbrev K36:List Nat:=[0,2,3,4,5,9,15]
theorem n36:Tryz.f36.ntmps=31:=by kernel_rfl
theorem r36:resT Tryz.f36.results.toList=some [2]:=by kernel_rfl
theorem x36:cmpF Tryz.prog Tryz.f36=some (expand T36 10 X36):=by kernel_rfl
def T37n0:XC:=.cond (.tmp 17) (.ops [zx 6 (.mov (.const (.int .i64 1)))]) .skip
def T37n1:XC:=.seq (.ops [zx 2 (.mov (.const (.int .i64 0))),zx 3 (.mov (.const (.bool false)))]) .ret
def T37n2:XC:=.ops [zm 48 4,zx 49 (.arith .mul .i64 (.const (.int .i64 10)) (.tmp 48)),zm 50 8,zx 51 (.arith .sub .i64 (.tmp 49) (.tmp 50)),zm 4 51]
def T37n3:XC:=.seq (.seq (.ops [zm 30 8,zx 31 (.cmp .lss .i64 (.tmp 30) (.const (.int .i64 0))),zm 32 31,zh 33 32 false 8,zg 34 32 false (.cmp .gtr .i64 (.tmp 33) (.const (.int .i64 9))),zx 35 (.pick (.tmp 32) (.const (.bool true)) (.tmp 34)),zm 36 35,zh 37 36 false 4,zg 38 36 false (.cmp .lss .i64 (.tmp 37) (.const (.int .i64 (-922337203685477580)))),zx 39 (.pick (.tmp 36) (.const (.bool true)) (.tmp 38)),zm 40 39,zh 41 40 false 4,zg 42 40 false (.cmp .eql .i64 (.tmp 41) (.const (.int .i64 (-922337203685477580)))),zh 43 40 false 42,zh 44 43 true 8,zg 45 43 true (.cmp .gtr .i64 (.tmp 44) (.const (.int .i64 8))),zg 46 40 false (.pick (.tmp 43) (.tmp 45) (.const (.bool false))),zx 47 (.pick (.tmp 40) (.const (.bool true)) (.tmp 46))]) (.cond (.tmp 47) (.ref 1) .skip)) (.ref 2)
def T37n4:XC:=.ops [zm 23 7,zp 24 23,zm 7 24]
def T37n5:XC:=.seq (.blk 1 (.seq (.ops [zm 25 0,zm 26 7,zx 27 (.ixT (.tmp 25) (.tmp 26)),zx 28 (.conv .i64 (.tmp 27)),zx 29 (.arith .sub .i64 (.tmp 28) (.const (.int .i64 48))),zm 8 29]) (.ref 3))) (.ref 4)
def T37n6:XC:=.seq (.seq (.ops [zm 19 7,zm 20 0,zx 21 (.lenT (.tmp 20)),zk 22 .lss 19 21]) (.cond (.tmp 22) .skip (.exit 0))) (.ref 5)
def T37n7:XC:=.ops [zm 54 4,zx 55 (.neg .i64 (.tmp 54)),zm 4 55]
def T37n8:XC:=.seq (.ops [zm 56 4,zm 57 4,zc 58 59 [.tmp 57],zm 59 0,zx 60 (.eqs .eql (.tmp 58) (.tmp 59)),zm 2 56,zm 3 60]) .ret
def T37n9:XC:=.seq (.seq (.ops [zm 52 5,zx 53 (.not (.tmp 52))]) (.cond (.tmp 53) (.ref 7) .skip)) (.ref 8)
def T37n10:XC:=.seq (.seq (.ops [zm 18 6,zm 7 18]) (.blk 0 (.loop (.ref 6)))) (.ref 9)
def T37n11:XC:=.seq (.seq (.ops [zm 17 5]) (.ref 0)) (.ref 10)
def T37n12:XC:=.seq (.ops [zx 6 (.mov (.const (.int .i64 0)))]) (.ref 11)
def T37n13:XC:=.seq (.ops [zm 9 0,zx 10 (.lenT (.tmp 9)),zx 11 (.cmp .gtr .i64 (.tmp 10) (.const (.int .i64 0))),zm 12 11,zh 13 12 true 0,zg 14 12 true (.ixT (.tmp 13) (.const (.int .i64 0))),zg 15 12 true (.cmp .eql .u8 (.tmp 14) (.const (.int .u8 45))),zx 16 (.pick (.tmp 12) (.tmp 15) (.const (.bool false))),zm 5 16]) (.ref 12)
def T37n14:XC:=.seq (.ops [zx 4 (.mov (.const (.int .i64 0)))]) (.ref 13)
def T37:Nat→XC
 | 0=>T37n0
 | 1=>T37n1
 | 2=>T37n2
 | 3=>T37n3
 | 4=>T37n4
 | 5=>T37n5
 | 6=>T37n6
 | 7=>T37n7
 | 8=>T37n8
 | 9=>T37n9
 | 10=>T37n10
 | 11=>T37n11
 | 12=>T37n12
 | 13=>T37n13
 | 14=>T37n14
 | _=>.skip
theorem t37n0:T37 0=T37n0:=rfl
theorem t37n1:T37 1=T37n1:=rfl
theorem t37n2:T37 2=T37n2:=rfl
theorem t37n3:T37 3=T37n3:=rfl
theorem t37n4:T37 4=T37n4:=rfl
theorem t37n5:T37 5=T37n5:=rfl
theorem t37n6:T37 6=T37n6:=rfl
theorem t37n7:T37 7=T37n7:=rfl
theorem t37n8:T37 8=T37n8:=rfl
theorem t37n9:T37 9=T37n9:=rfl
theorem t37n10:T37 10=T37n10:=rfl
theorem t37n11:T37 11=T37n11:=rfl
theorem t37n12:T37 12=T37n12:=rfl
theorem t37n13:T37 13=T37n13:=rfl
theorem t37n14:T37 14=T37n14:=rfl
def X37:XC:=.seq (.ops [zx 2 (.mov (.const (.int .i64 0))),zx 3 (.mov (.const (.bool false)))]) (.ref 14)
abbrev K37:List Nat:=[0,2,3,4,5,6,7,8,17,22,47,53]
theorem n37:Tryz.f37.ntmps=61:=by kernel_rfl
theorem r37:resT Tryz.f37.results.toList=some [2,3]:=by kernel_rfl
theorem x37:cmpF Tryz.prog Tryz.f37=some (expand T37 16 X37):=by kernel_rfl
def T38n0:XC:=.seq (.ops [zf 59 0 1,zf 64 1 1,zf 69 2 1,zf 74 3 1,zf 79 4 1,zl 60 59,zl 65 64,zl 70 69,zl 75 74,zl 80 79,zc 61 59 [.tmp 60],.mk none none (.still 80 (.load [.int .i64] false (.tmp 79))),.mk none none (.still 75 (.load [.int .i64] false (.tmp 74))),.mk none none (.still 70 (.load [.int .i64] false (.tmp 69))),.mk none none (.still 65 (.load [.int .i64] false (.tmp 64))),zx 62 (.cat (.const (.string (ByteArray.mk (Array.mk [UInt8.ofNat 114,UInt8.ofNat 97,UInt8.ofNat 119,UInt8.ofNat 32])))) (.tmp 61)),zx 63 (.cat (.tmp 62) (.const (.string (ByteArray.mk (Array.mk [UInt8.ofNat 32]))))),zc 66 59 [.tmp 65],.mk none none (.still 80 (.load [.int .i64] false (.tmp 79))),.mk none none (.still 75 (.load [.int .i64] false (.tmp 74))),.mk none none (.still 70 (.load [.int .i64] false (.tmp 69))),zx 67 (.cat (.tmp 63) (.tmp 66)),zx 68 (.cat (.tmp 67) (.const (.string (ByteArray.mk (Array.mk [UInt8.ofNat 32]))))),zc 71 59 [.tmp 70],.mk none none (.still 80 (.load [.int .i64] false (.tmp 79))),.mk none none (.still 75 (.load [.int .i64] false (.tmp 74))),zx 72 (.cat (.tmp 68) (.tmp 71)),zx 73 (.cat (.tmp 72) (.const (.string (ByteArray.mk (Array.mk [UInt8.ofNat 32]))))),zc 76 59 [.tmp 75],.mk none none (.still 80 (.load [.int .i64] false (.tmp 79))),zx 77 (.cat (.tmp 73) (.tmp 76)),zx 78 (.cat (.tmp 77) (.const (.string (ByteArray.mk (Array.mk [UInt8.ofNat 32]))))),zc 81 59 [.tmp 80],zx 82 (.cat (.tmp 78) (.tmp 81)),zm 2 82]) .ret
def T38n1:XC:=.ops [zm 87 5,zx 88 (.cat (.tmp 87) (.const (.string (ByteArray.mk (Array.mk [UInt8.ofNat 32]))))),zf 89 1 1,zl 90 89,zc 91 59 [.tmp 90],zx 92 (.cat (.tmp 88) (.tmp 91)),zm 5 92]
def T38n2:XC:=.ops [zm 95 5,zx 96 (.cat (.tmp 95) (.const (.string (ByteArray.mk (Array.mk [UInt8.ofNat 32]))))),zf 97 2 1,zl 98 97,zc 99 59 [.tmp 98],zx 100 (.cat (.tmp 96) (.tmp 99)),zm 5 100]
def T38n3:XC:=.ops [zm 103 5,zx 104 (.cat (.tmp 103) (.const (.string (ByteArray.mk (Array.mk [UInt8.ofNat 32]))))),zf 105 3 1,zl 106 105,zc 107 59 [.tmp 106],zx 108 (.cat (.tmp 104) (.tmp 107)),zm 5 108]
def T38n4:XC:=.ops [zm 111 5,zx 112 (.cat (.tmp 111) (.const (.string (ByteArray.mk (Array.mk [UInt8.ofNat 32]))))),zf 113 4 1,zl 114 113,zc 115 59 [.tmp 114],zx 116 (.cat (.tmp 112) (.tmp 115)),zm 5 116]
def T38n5:XC:=.seq (.ops [zm 117 5,zm 2 117]) .ret
def T38n6:XC:=.seq (.seq (.ops [zf 109 4 3,zx 110 (.load [.bool] false (.tmp 109))]) (.cond (.tmp 110) (.ref 4) .skip)) (.ref 5)
def T38n7:XC:=.seq (.seq (.ops [zf 101 3 3,zx 102 (.load [.bool] false (.tmp 101))]) (.cond (.tmp 102) (.ref 3) .skip)) (.ref 6)
def T38n8:XC:=.seq (.seq (.ops [zf 93 2 3,zx 94 (.load [.bool] false (.tmp 93))]) (.cond (.tmp 94) (.ref 2) .skip)) (.ref 7)
def T38n9:XC:=.seq (.seq (.ops [zf 85 1 3,zx 86 (.load [.bool] false (.tmp 85))]) (.cond (.tmp 86) (.ref 1) .skip)) (.ref 8)
def T38n10:XC:=.seq (.ops [zf 83 0 3,zx 84 (.load [.str] false (.tmp 83)),zm 5 84]) (.ref 9)
def T38n11:XC:=.seq (.seq (.ops [zm 12 4,zx 13 (.not (.tmp 12)),zm 14 13,zg 15 14 false (.load [.int .i64,.int .i64,.int .i64,.int .i64,.int .i64] true (.tmp 1)),.mk (some 16) (some (14,false)) (.call 22 [.tmp 15]),zg 17 14 false (.not (.tmp 16)),zx 18 (.pick (.tmp 14) (.const (.bool true)) (.tmp 17)),zm 19 18,zg 20 19 false (.fld 1 (.tmp 3)),zg 21 19 false (.load [.bool] false (.tmp 20)),zg 22 19 false (.not (.tmp 21)),zh 23 19 false 22,zg 24 23 true (.fld 1 (.tmp 1)),zg 25 23 true (.load [.int .i64] false (.tmp 24)),zg 26 23 true (.cmp .neq .i64 (.tmp 25) (.const (.int .i64 0))),zg 27 19 false (.pick (.tmp 23) (.tmp 26) (.const (.bool false))),zx 28 (.pick (.tmp 19) (.const (.bool true)) (.tmp 27)),zm 29 28,zg 30 29 false (.fld 2 (.tmp 3)),zg 31 29 false (.load [.bool] false (.tmp 30)),zg 32 29 false (.not (.tmp 31)),zh 33 29 false 32,zg 34 33 true (.fld 2 (.tmp 1)),zg 35 33 true (.load [.int .i64] false (.tmp 34)),zg 36 33 true (.cmp .neq .i64 (.tmp 35) (.const (.int .i64 0))),zg 37 29 false (.pick (.tmp 33) (.tmp 36) (.const (.bool false))),zx 38 (.pick (.tmp 29) (.const (.bool true)) (.tmp 37)),zm 39 38,zg 40 39 false (.fld 3 (.tmp 3)),zg 41 39 false (.load [.bool] false (.tmp 40)),zg 42 39 false (.not (.tmp 41)),zh 43 39 false 42,zg 44 43 true (.fld 3 (.tmp 1)),zg 45 43 true (.load [.int .i64] false (.tmp 44)),zg 46 43 true (.cmp .neq .i64 (.tmp 45) (.const (.int .i64 0))),zg 47 39 false (.pick (.tmp 43) (.tmp 46) (.const (.bool false))),zx 48 (.pick (.tmp 39) (.const (.bool true)) (.tmp 47)),zm 49 48,zg 50 49 false (.fld 4 (.tmp 3)),zg 51 49 false (.load [.bool] false (.tmp 50)),zg 52 49 false (.not (.tmp 51)),zh 53 49 false 52,zg 54 53 true (.fld 4 (.tmp 1)),zg 55 53 true (.load [.int .i64] false (.tmp 54)),zg 56 53 true (.cmp .neq .i64 (.tmp 55) (.const (.int .i64 0))),zg 57 49 false (.pick (.tmp 53) (.tmp 56) (.const (.bool false))),zx 58 (.pick (.tmp 49) (.const (.bool true)) (.tmp 57))]) (.cond (.tmp 58) (.ref 0) .skip)) (.ref 10)
def T38n12:XC:=.seq (.ops [zf 7 0 1,zl 8 7,zc 9 39 [.tmp 8],zm 6 9,zy 10 6 0,zy 11 6 1,zx 3 (.alloc 81 [.string (ByteArray.mk (Array.mk [])),.bool false,.bool false,.bool false,.bool false]),zn (.store 5 (.tmp 3) (.tmp 10)),zm 4 11]) (.ref 11)
def T38:Nat→XC
 | 0=>T38n0
 | 1=>T38n1
 | 2=>T38n2
 | 3=>T38n3
 | 4=>T38n4
 | 5=>T38n5
 | 6=>T38n6
 | 7=>T38n7
 | 8=>T38n8
 | 9=>T38n9
 | 10=>T38n10
 | 11=>T38n11
 | 12=>T38n12
 | _=>.skip
theorem t38n0:T38 0=T38n0:=rfl
theorem t38n1:T38 1=T38n1:=rfl
theorem t38n2:T38 2=T38n2:=rfl
theorem t38n3:T38 3=T38n3:=rfl
theorem t38n4:T38 4=T38n4:=rfl
theorem t38n5:T38 5=T38n5:=rfl
theorem t38n6:T38 6=T38n6:=rfl
theorem t38n7:T38 7=T38n7:=rfl
theorem t38n8:T38 8=T38n8:=rfl
theorem t38n9:T38 9=T38n9:=rfl
theorem t38n10:T38 10=T38n10:=rfl
theorem t38n11:T38 11=T38n11:=rfl
theorem t38n12:T38 12=T38n12:=rfl
def X38:XC:=.seq (.ops [zx 1 (.box 43 5 (.tmp 0)),zx 2 (.mov (.const (.string (ByteArray.mk (Array.mk [])))))]) (.ref 12)
abbrev K38:List Nat:=[0,1,2,3,4,5,58,86,94,102,110]
theorem n38:Tryz.f38.ntmps=118:=by kernel_rfl
theorem r38:resT Tryz.f38.results.toList=some [2]:=by kernel_rfl
theorem x38:cmpF Tryz.prog Tryz.f38=some (expand T38 14 X38):=by kernel_rfl
def T39n0:XC:=.seq (.ops [zx 9 (.build [.string (ByteArray.mk (Array.mk [])),.bool false,.bool false,.bool false,.bool false] [(0,1,.const (.string (ByteArray.mk (Array.mk [UInt8.ofNat 104,UInt8.ofNat 97,UInt8.ofNat 108,UInt8.ofNat 116]))))]),zn (.store 5 (.tmp 2) (.tmp 9)),zx 3 (.mov (.const (.bool true)))]) .ret
def T39n1:XC:=.seq (.ops [zx 12 (.build [.string (ByteArray.mk (Array.mk [])),.bool false,.bool false,.bool false,.bool false] [(0,1,.const (.string (ByteArray.mk (Array.mk [UInt8.ofNat 115,UInt8.ofNat 101,UInt8.ofNat 116])))),(1,1,.const (.bool true)),(4,1,.const (.bool true))]),zn (.store 5 (.tmp 2) (.tmp 12)),zx 3 (.mov (.const (.bool true)))]) .ret
def T39n2:XC:=.seq (.ops [zx 15 (.build [.string (ByteArray.mk (Array.mk [])),.bool false,.bool false,.bool false,.bool false] [(0,1,.const (.string (ByteArray.mk (Array.mk [UInt8.ofNat 109,UInt8.ofNat 111,UInt8.ofNat 118])))),(1,1,.const (.bool true)),(2,1,.const (.bool true))]),zn (.store 5 (.tmp 2) (.tmp 15)),zx 3 (.mov (.const (.bool true)))]) .ret
def T39n3:XC:=.cond (.tmp 16) .skip (.ops [zx 23 (.cmp .eql .i64 (.tmp 6) (.const (.int .i64 10))),zm 16 23])
def T39n4:XC:=.seq (.ops [zx 22 (.cmp .eql .i64 (.tmp 6) (.const (.int .i64 9))),zm 16 22]) (.ref 3)
def T39n5:XC:=.seq (.ops [zx 21 (.cmp .eql .i64 (.tmp 6) (.const (.int .i64 8))),zm 16 21]) (.cond (.tmp 16) .skip (.ref 4))
def T39n6:XC:=.seq (.ops [zx 20 (.cmp .eql .i64 (.tmp 6) (.const (.int .i64 7))),zm 16 20]) (.cond (.tmp 16) .skip (.ref 5))
def T39n7:XC:=.seq (.ops [zx 19 (.cmp .eql .i64 (.tmp 6) (.const (.int .i64 6))),zm 16 19]) (.cond (.tmp 16) .skip (.ref 6))
def T39n8:XC:=.seq (.ops [zx 18 (.cmp .eql .i64 (.tmp 6) (.const (.int .i64 5))),zm 16 18]) (.cond (.tmp 16) .skip (.ref 7))
def T39n9:XC:=.seq (.ops [zm 25 4,zm 26 0,zx 27 (.arith .sub .i64 (.tmp 26) (.const (.int .i64 4))),zd 28 1 25 27,zx 29 (.load [.str] false (.tmp 28)),zx 30 (.build [.string (ByteArray.mk (Array.mk [])),.bool false,.bool false,.bool false,.bool false] [(0,1,.tmp 29),(1,1,.const (.bool true)),(2,1,.const (.bool true)),(3,1,.const (.bool true))]),zn (.store 5 (.tmp 2) (.tmp 30)),zx 3 (.mov (.const (.bool true)))]) .ret
def T39n10:XC:=.seq (.ops [zx 24 (.buildS 9 7 1 [.string (ByteArray.mk (Array.mk []))] [(0,.const (.string (ByteArray.mk (Array.mk [UInt8.ofNat 97,UInt8.ofNat 100,UInt8.ofNat 100])))),(1,.const (.string (ByteArray.mk (Array.mk [UInt8.ofNat 115,UInt8.ofNat 117,UInt8.ofNat 98])))),(2,.const (.string (ByteArray.mk (Array.mk [UInt8.ofNat 109,UInt8.ofNat 117,UInt8.ofNat 108])))),(3,.const (.string (ByteArray.mk (Array.mk [UInt8.ofNat 97,UInt8.ofNat 110,UInt8.ofNat 100])))),(4,.const (.string (ByteArray.mk (Array.mk [UInt8.ofNat 120,UInt8.ofNat 111,UInt8.ofNat 114])))),(5,.const (.string (ByteArray.mk (Array.mk [UInt8.ofNat 115,UInt8.ofNat 104,UInt8.ofNat 108])))),(6,.const (.string (ByteArray.mk (Array.mk [UInt8.ofNat 115,UInt8.ofNat 104,UInt8.ofNat 114]))))]),zm 4 24]) (.ref 9)
def T39n11:XC:=.cond (.tmp 31) .skip (.ops [zx 36 (.cmp .eql .i64 (.tmp 6) (.const (.int .i64 16))),zm 31 36])
def T39n12:XC:=.seq (.ops [zx 35 (.cmp .eql .i64 (.tmp 6) (.const (.int .i64 15))),zm 31 35]) (.ref 11)
def T39n13:XC:=.seq (.ops [zx 34 (.cmp .eql .i64 (.tmp 6) (.const (.int .i64 14))),zm 31 34]) (.cond (.tmp 31) .skip (.ref 12))
def T39n14:XC:=.seq (.ops [zx 33 (.cmp .eql .i64 (.tmp 6) (.const (.int .i64 12))),zm 31 33]) (.cond (.tmp 31) .skip (.ref 13))
def T39n15:XC:=.seq (.ops [zm 38 5,zm 39 0,zx 40 (.arith .sub .i64 (.tmp 39) (.const (.int .i64 11))),zd 41 1 38 40,zx 42 (.load [.str] false (.tmp 41)),zx 43 (.build [.string (ByteArray.mk (Array.mk [])),.bool false,.bool false,.bool false,.bool false] [(0,1,.tmp 42),(1,1,.const (.bool true)),(2,1,.const (.bool true)),(4,1,.const (.bool true))]),zn (.store 5 (.tmp 2) (.tmp 43)),zx 3 (.mov (.const (.bool true)))]) .ret
def T39n16:XC:=.seq (.ops [zx 37 (.buildS 9 6 1 [.string (ByteArray.mk (Array.mk []))] [(0,.const (.string (ByteArray.mk (Array.mk [UInt8.ofNat 108,UInt8.ofNat 111,UInt8.ofNat 97,UInt8.ofNat 100])))),(1,.const (.string (ByteArray.mk (Array.mk [UInt8.ofNat 115,UInt8.ofNat 116,UInt8.ofNat 111,UInt8.ofNat 114,UInt8.ofNat 101])))),(2,.const (.string (ByteArray.mk (Array.mk [])))),(3,.const (.string (ByteArray.mk (Array.mk [UInt8.ofNat 101,UInt8.ofNat 113])))),(4,.const (.string (ByteArray.mk (Array.mk [UInt8.ofNat 110,UInt8.ofNat 101])))),(5,.const (.string (ByteArray.mk (Array.mk [UInt8.ofNat 108,UInt8.ofNat 116]))))]),zm 5 37]) (.ref 15)
def T39n17:XC:=.seq (.ops [zx 46 (.build [.string (ByteArray.mk (Array.mk [])),.bool false,.bool false,.bool false,.bool false] [(0,1,.const (.string (ByteArray.mk (Array.mk [UInt8.ofNat 106,UInt8.ofNat 117,UInt8.ofNat 109,UInt8.ofNat 112])))),(4,1,.const (.bool true))]),zn (.store 5 (.tmp 2) (.tmp 46)),zx 3 (.mov (.const (.bool true)))]) .ret
def T39n18:XC:=.seq (.ops [zx 49 (.build [.string (ByteArray.mk (Array.mk [])),.bool false,.bool false,.bool false,.bool false] [(0,1,.const (.string (ByteArray.mk (Array.mk [UInt8.ofNat 98,UInt8.ofNat 101,UInt8.ofNat 103,UInt8.ofNat 105,UInt8.ofNat 110]))))]),zn (.store 5 (.tmp 2) (.tmp 49)),zx 3 (.mov (.const (.bool true)))]) .ret
def T39n19:XC:=.seq (.ops [zx 52 (.build [.string (ByteArray.mk (Array.mk [])),.bool false,.bool false,.bool false,.bool false] [(0,1,.const (.string (ByteArray.mk (Array.mk [UInt8.ofNat 101,UInt8.ofNat 110,UInt8.ofNat 100]))))]),zn (.store 5 (.tmp 2) (.tmp 52)),zx 3 (.mov (.const (.bool true)))]) .ret
def T39n20:XC:=.seq (.ops [zx 51 (.cmp .eql .i64 (.tmp 6) (.const (.int .i64 18))),zm 50 51]) (.cond (.tmp 50) (.ref 19) .skip)
def T39n21:XC:=.seq (.ops [zx 48 (.cmp .eql .i64 (.tmp 6) (.const (.int .i64 17))),zm 47 48]) (.cond (.tmp 47) (.ref 18) (.ref 20))
def T39n22:XC:=.seq (.ops [zx 45 (.cmp .eql .i64 (.tmp 6) (.const (.int .i64 13))),zm 44 45]) (.cond (.tmp 44) (.ref 17) (.ref 21))
def T39n23:XC:=.seq (.seq (.ops [zx 32 (.cmp .eql .i64 (.tmp 6) (.const (.int .i64 11))),zm 31 32]) (.cond (.tmp 31) .skip (.ref 14))) (.cond (.tmp 31) (.ref 16) (.ref 22))
def T39n24:XC:=.seq (.seq (.ops [zx 17 (.cmp .eql .i64 (.tmp 6) (.const (.int .i64 4))),zm 16 17]) (.cond (.tmp 16) .skip (.ref 8))) (.cond (.tmp 16) (.ref 10) (.ref 23))
def T39n25:XC:=.seq (.ops [zx 14 (.cmp .eql .i64 (.tmp 6) (.const (.int .i64 3))),zm 13 14]) (.cond (.tmp 13) (.ref 2) (.ref 24))
def T39n26:XC:=.seq (.ops [zx 11 (.cmp .eql .i64 (.tmp 6) (.const (.int .i64 2))),zm 10 11]) (.cond (.tmp 10) (.ref 1) (.ref 25))
def T39n27:XC:=.blk 0 (.seq (.ops [zx 8 (.cmp .eql .i64 (.tmp 6) (.const (.int .i64 1))),zm 7 8]) (.cond (.tmp 7) (.ref 0) (.ref 26)))
def T39n28:XC:=.seq (.ops [zx 53 (.build [.string (ByteArray.mk (Array.mk [])),.bool false,.bool false,.bool false,.bool false] []),zn (.store 5 (.tmp 2) (.tmp 53)),zx 3 (.mov (.const (.bool false)))]) .ret
def T39n29:XC:=.seq (.seq (.ops [zm 6 0]) (.ref 27)) (.ref 28)
def T39:Nat→XC
 | 0=>T39n0
 | 1=>T39n1
 | 2=>T39n2
 | 3=>T39n3
 | 4=>T39n4
 | 5=>T39n5
 | 6=>T39n6
 | 7=>T39n7
 | 8=>T39n8
 | 9=>T39n9
 | 10=>T39n10
 | 11=>T39n11
 | 12=>T39n12
 | 13=>T39n13
 | 14=>T39n14
 | 15=>T39n15
 | 16=>T39n16
 | 17=>T39n17
 | 18=>T39n18
 | 19=>T39n19
 | 20=>T39n20
 | 21=>T39n21
 | 22=>T39n22
 | 23=>T39n23
 | 24=>T39n24
 | 25=>T39n25
 | 26=>T39n26
 | 27=>T39n27
 | 28=>T39n28
 | 29=>T39n29
 | _=>.skip
theorem t39n0:T39 0=T39n0:=rfl
theorem t39n1:T39 1=T39n1:=rfl
theorem t39n2:T39 2=T39n2:=rfl
theorem t39n3:T39 3=T39n3:=rfl
theorem t39n4:T39 4=T39n4:=rfl
theorem t39n5:T39 5=T39n5:=rfl
theorem t39n6:T39 6=T39n6:=rfl
theorem t39n7:T39 7=T39n7:=rfl
theorem t39n8:T39 8=T39n8:=rfl
theorem t39n9:T39 9=T39n9:=rfl
theorem t39n10:T39 10=T39n10:=rfl
theorem t39n11:T39 11=T39n11:=rfl
theorem t39n12:T39 12=T39n12:=rfl
theorem t39n13:T39 13=T39n13:=rfl
theorem t39n14:T39 14=T39n14:=rfl
theorem t39n15:T39 15=T39n15:=rfl
theorem t39n16:T39 16=T39n16:=rfl
theorem t39n17:T39 17=T39n17:=rfl
theorem t39n18:T39 18=T39n18:=rfl
theorem t39n19:T39 19=T39n19:=rfl
theorem t39n20:T39 20=T39n20:=rfl
theorem t39n21:T39 21=T39n21:=rfl
theorem t39n22:T39 22=T39n22:=rfl
theorem t39n23:T39 23=T39n23:=rfl
theorem t39n24:T39 24=T39n24:=rfl
theorem t39n25:T39 25=T39n25:=rfl
theorem t39n26:T39 26=T39n26:=rfl
theorem t39n27:T39 27=T39n27:=rfl
theorem t39n28:T39 28=T39n28:=rfl
theorem t39n29:T39 29=T39n29:=rfl
def X39:XC:=.seq (.ops [zx 2 (.alloc 81 [.string (ByteArray.mk (Array.mk [])),.bool false,.bool false,.bool false,.bool false]),zx 3 (.mov (.const (.bool false)))]) (.ref 29)
abbrev K39:List Nat:=[0,2,3,4,5,6,7,10,13,16,31,44,47,50]
theorem n39:Tryz.f39.ntmps=54:=by kernel_rfl
theorem r39:rvOf Tryz.prog Tryz.f39.results.toList=some [RV.cell 2 5 true,RV.tmp 3]:=by kernel_rfl
theorem x39:cmpF Tryz.prog Tryz.f39=some (expand T39 31 X39):=by kernel_rfl
def T59n0:XC:=.ops [zm 24 6,zx 25 (.neg .i64 (.tmp 24)),zm 6 25]
def T59n1:XC:=.ops [zm 33 4,zx 34 (.div .quo .i64 (.tmp 33) (.const (.int .i64 10))),zm 4 34]
def T59n2:XC:=.seq (.ops [zm 26 6,zx 27 (.arith .add .i64 (.const (.int .i64 48)) (.tmp 26)),zx 28 (.conv .u8 (.tmp 27)),zx 29 (.buildS 5 1 1 [.int .u8 0] [(0,.tmp 28)]),zx 30 (.b2s (.tmp 29)),zm 31 3,zx 32 (.cat (.tmp 30) (.tmp 31)),zm 3 32]) (.ref 1)
def T59n3:XC:=.seq (.seq (.ops [zm 22 6,zx 23 (.cmp .lss .i64 (.tmp 22) (.const (.int .i64 0)))]) (.cond (.tmp 23) (.ref 0) .skip)) (.ref 2)
def T59n4:XC:=.ops [zm 18 5,zp 19 18,zm 5 19]
def T59n5:XC:=.seq (.blk 1 (.seq (.ops [zm 20 4,zx 21 (.div .rem .i64 (.tmp 20) (.const (.int .i64 10))),zm 6 21]) (.ref 3))) (.ref 4)
def T59n6:XC:=.seq (.seq (.ops [zm 8 5,zx 9 (.cmp .lss .i64 (.tmp 8) (.const (.int .i64 20))),zm 10 9,zh 11 10 true 5,zg 12 10 true (.cmp .eql .i64 (.tmp 11) (.const (.int .i64 0))),zh 13 10 true 12,zh 14 13 false 4,zg 15 13 false (.cmp .neq .i64 (.tmp 14) (.const (.int .i64 0))),zg 16 10 true (.pick (.tmp 13) (.const (.bool true)) (.tmp 15)),zx 17 (.pick (.tmp 10) (.tmp 16) (.const (.bool false)))]) (.cond (.tmp 17) .skip (.exit 0))) (.ref 5)
def T59n7:XC:=.seq (.ops [zm 37 3,zx 38 (.cat (.const (.string (ByteArray.mk (Array.mk [UInt8.ofNat 45])))) (.tmp 37)),zm 2 38]) .ret
def T59n8:XC:=.seq (.ops [zm 39 3,zm 2 39]) .ret
def T59n9:XC:=.seq (.seq (.ops [zm 35 0,zx 36 (.cmp .lss .i64 (.tmp 35) (.const (.int .i64 0)))]) (.cond (.tmp 36) (.ref 7) .skip)) (.ref 8)
def T59n10:XC:=.seq (.seq (.ops [zx 5 (.mov (.const (.int .i64 0)))]) (.blk 0 (.loop (.ref 6)))) (.ref 9)
def T59n11:XC:=.seq (.ops [zm 7 0,zm 4 7]) (.ref 10)
def T59n12:XC:=.seq (.ops [zx 3 (.mov (.const (.string (ByteArray.mk (Array.mk [])))))]) (.ref 11)
def T59:Nat→XC
 | 0=>T59n0
 | 1=>T59n1
 | 2=>T59n2
 | 3=>T59n3
 | 4=>T59n4
 | 5=>T59n5
 | 6=>T59n6
 | 7=>T59n7
 | 8=>T59n8
 | 9=>T59n9
 | 10=>T59n10
 | 11=>T59n11
 | 12=>T59n12
 | _=>.skip
theorem t59n0:T59 0=T59n0:=rfl
theorem t59n1:T59 1=T59n1:=rfl
theorem t59n2:T59 2=T59n2:=rfl
theorem t59n3:T59 3=T59n3:=rfl
theorem t59n4:T59 4=T59n4:=rfl
theorem t59n5:T59 5=T59n5:=rfl
theorem t59n6:T59 6=T59n6:=rfl
theorem t59n7:T59 7=T59n7:=rfl
theorem t59n8:T59 8=T59n8:=rfl
theorem t59n9:T59 9=T59n9:=rfl
theorem t59n10:T59 10=T59n10:=rfl
theorem t59n11:T59 11=T59n11:=rfl
theorem t59n12:T59 12=T59n12:=rfl
def X59:XC:=.seq (.ops [zx 2 (.mov (.const (.string (ByteArray.mk (Array.mk [])))))]) (.ref 12)
abbrev K59:List Nat:=[0,2,3,4,5,6,17,23,36]
theorem n59:Tryz.f59.ntmps=40:=by kernel_rfl
theorem r59:resT Tryz.f59.results.toList=some [2]:=by kernel_rfl
theorem x59:cmpF Tryz.prog Tryz.f59=some (expand T59 14 X59):=by kernel_rfl
attribute [go_sem] t21n0 t21n1 t21n2 t21n3 t21n4 t21n5 t21n6 t21n7 t21n8 t21n9 t21n10 t21n11 t21n12 t21n13 t21n14 t21n15 t21n16 t21n17 t21n18 t21n19 t21n20 t21n21 t21n22 t21n23 t21n24 t21n25 t21n26 t21n27 t21n28 t21n29 t21n30 t21n31 t21n32 t21n33 t21n34 t21n35 T21n0 T21n1 T21n2 T21n3 T21n4 T21n5 T21n6 T21n7 T21n8 T21n9 T21n10 T21n11 T21n12 T21n13 T21n14 T21n15 T21n16 T21n17 T21n18 T21n19 T21n20 T21n21 T21n22 T21n23 T21n24 T21n25 T21n26 T21n27 T21n28 T21n29 T21n30 T21n31 T21n32 T21n33 T21n34 T21n35 X21
attribute [go_sem] t22n0 t22n1 T22n0 T22n1 X22
attribute [go_sem] t36n0 t36n1 t36n2 t36n3 t36n4 t36n5 t36n6 t36n7 t36n8 T36n0 T36n1 T36n2 T36n3 T36n4 T36n5 T36n6 T36n7 T36n8 X36
attribute [go_sem] t37n0 t37n1 t37n2 t37n3 t37n4 t37n5 t37n6 t37n7 t37n8 t37n9 t37n10 t37n11 t37n12 t37n13 t37n14 T37n0 T37n1 T37n2 T37n3 T37n4 T37n5 T37n6 T37n7 T37n8 T37n9 T37n10 T37n11 T37n12 T37n13 T37n14 X37
attribute [go_sem] t38n0 t38n1 t38n2 t38n3 t38n4 t38n5 t38n6 t38n7 t38n8 t38n9 t38n10 t38n11 t38n12 T38n0 T38n1 T38n2 T38n3 T38n4 T38n5 T38n6 T38n7 T38n8 T38n9 T38n10 T38n11 T38n12 X38
attribute [go_sem] t39n0 t39n1 t39n2 t39n3 t39n4 t39n5 t39n6 t39n7 t39n8 t39n9 t39n10 t39n11 t39n12 t39n13 t39n14 t39n15 t39n16 t39n17 t39n18 t39n19 t39n20 t39n21 t39n22 t39n23 t39n24 t39n25 t39n26 t39n27 t39n28 t39n29 T39n0 T39n1 T39n2 T39n3 T39n4 T39n5 T39n6 T39n7 T39n8 T39n9 T39n10 T39n11 T39n12 T39n13 T39n14 T39n15 T39n16 T39n17 T39n18 T39n19 T39n20 T39n21 T39n22 T39n23 T39n24 T39n25 T39n26 T39n27 T39n28 T39n29 X39
attribute [go_sem] t59n0 t59n1 t59n2 t59n3 t59n4 t59n5 t59n6 t59n7 t59n8 t59n9 t59n10 t59n11 t59n12 T59n0 T59n1 T59n2 T59n3 T59n4 T59n5 T59n6 T59n7 T59n8 T59n9 T59n10 T59n11 T59n12 X59
end Go.Proofs.YtaiajnehnjnadaaGreatDoor
