/- Printed by program: the small code of functions, and that it is theirs. -/
import Derived.Test.YtgghmmjoplddbaaGreatDoorSxStill
import Derived.Test.YtgghmmjoplddbaaGreatDoorProg
import Derived.KernelRfl
set_option linter.unusedSimpArgs false
set_option linter.unusedVariables false
set_option linter.unnecessarySimpa false
namespace Go.Proofs.YtgghmmjoplddbaaGreatDoor
open Go Go.Sx
set_option maxRecDepth 100000
def T11n0:XC:=.seq (.ops [zx 2 (.mov (.const (.bool false)))]) .ret
def T11n1:XC:=.seq (.ops [zm 24 3,zm 25 5,zx 26 (.ixT (.const (.string (ByteArray.mk (Array.mk [UInt8.ofNat 65,UInt8.ofNat 66,UInt8.ofNat 67])))) (.tmp 25)),zc 27 31 [.tmp 24,.tmp 26],zx 28 (.cmp .geq .i64 (.tmp 27) (.const (.int .i64 0))),zm 29 28,zh 30 29 true 6,zg 31 29 true (.cmp .lss .i64 (.tmp 30) (.const (.int .i64 0))),zh 32 29 true 31,zh 33 32 false 6,zg 34 32 false (.cmp .geq .i64 (.tmp 33) (.const (.int .i64 8))),zg 35 29 true (.pick (.tmp 32) (.const (.bool true)) (.tmp 34)),zx 36 (.pick (.tmp 29) (.tmp 35) (.const (.bool false)))]) (.cond (.tmp 36) (.ref 0) .skip)
def T11n2:XC:=.seq (.blk 1 (.seq (.ops [zm 22 20,zx 23 (.ixA 3 1 false (.tmp 19) (.tmp 20)),zm 5 22,zm 6 23]) (.ref 1))) (.ops [zp 37 20,zm 20 37])
def T11n3:XC:=.seq (.cond (.tmp 21) .skip (.exit 0)) (.ref 2)
def T11n4:XC:=.seq (.ops [zx 21 (.cmp .lss .i64 (.tmp 20) (.const (.int .i64 3)))]) (.ref 3)
def T11n5:XC:=.seq (.ops [zm 38 4,zm 2 38]) .ret
def T11n6:XC:=.seq (.seq (.ops [zf 13 1 1,zl 14 13,zf 15 2 1,zl 16 15,zf 17 3 1,zl 18 17,zx 19 (.build [.int .i64 0,.int .i64 0,.int .i64 0] [(0,1,.tmp 14),(1,1,.tmp 16),(2,1,.tmp 18)]),zx 20 (.mov (.const (.int .i64 0)))]) (.blk 0 (.loop (.ref 4)))) (.ref 5)
def T11n7:XC:=.seq (.ops [zf 8 0 1,zl 9 8,zc 10 30 [.tmp 9],zm 7 10,zy 11 7 0,zy 12 7 1,zm 3 11,zm 4 12]) (.ref 6)
def T11:Nat→XC
 | 0=>T11n0
 | 1=>T11n1
 | 2=>T11n2
 | 3=>T11n3
 | 4=>T11n4
 | 5=>T11n5
 | 6=>T11n6
 | 7=>T11n7
 | _=>.skip
theorem t11n0:T11 0=T11n0:=rfl
theorem t11n1:T11 1=T11n1:=rfl
theorem t11n2:T11 2=T11n2:=rfl
theorem t11n3:T11 3=T11n3:=rfl
theorem t11n4:T11 4=T11n4:=rfl
theorem t11n5:T11 5=T11n5:=rfl
theorem t11n6:T11 6=T11n6:=rfl
theorem t11n7:T11 7=T11n7:=rfl
def X11:XC:=.seq (.ops [zx 1 (.box 47 5 (.tmp 0)),zx 2 (.mov (.const (.bool false)))]) (.ref 7)
abbrev K11:List Nat:=[0,1,2,3,4,5,6,19,20,21,36]
theorem n11:Tryz.f11.ntmps=39:=by kernel_rfl
theorem r11:resT Tryz.f11.results.toList=some [2]:=by kernel_rfl
theorem x11:cmpF Tryz.prog Tryz.f11=some (expand T11 9 X11):=by kernel_rfl
def T30n0:XC:=.seq (.ops [zx 2 (.mov (.const (.string (ByteArray.mk (Array.mk []))))),zx 3 (.mov (.const (.bool false)))]) .ret
def T30n1:XC:=.seq (.ops [zm 10 0,zx 11 (.idxA 19 2 (.global 0) (.tmp 10)),zf 12 1 11,zx 13 (.load [.str] false (.tmp 12)),zm 2 13,zx 3 (.mov (.const (.bool true)))]) .ret
def T30n2:XC:=.seq (.seq (.ops [zm 4 0,zx 5 (.cmp .lss .i64 (.tmp 4) (.const (.int .i64 1))),zm 6 5,zh 7 6 false 0,zg 8 6 false (.cmp .geq .i64 (.tmp 7) (.const (.int .i64 19))),zx 9 (.pick (.tmp 6) (.const (.bool true)) (.tmp 8))]) (.cond (.tmp 9) (.ref 0) .skip)) (.ref 1)
def T30:Nat→XC
 | 0=>T30n0
 | 1=>T30n1
 | 2=>T30n2
 | _=>.skip
theorem t30n0:T30 0=T30n0:=rfl
theorem t30n1:T30 1=T30n1:=rfl
theorem t30n2:T30 2=T30n2:=rfl
def X30:XC:=.seq (.ops [zx 2 (.mov (.const (.string (ByteArray.mk (Array.mk []))))),zx 3 (.mov (.const (.bool false)))]) (.ref 2)
abbrev K30:List Nat:=[0,2,3,9]
theorem n30:Tryz.f30.ntmps=14:=by kernel_rfl
theorem r30:resT Tryz.f30.results.toList=some [2,3]:=by kernel_rfl
theorem x30:cmpF Tryz.prog Tryz.f30=some (expand T30 4 X30):=by kernel_rfl
def T31n0:XC:=.seq (.ops [zm 5 0,zm 6 1,zc 7 53 [.tmp 5,.tmp 6],zm 4 7]) .ret
def T31:Nat→XC
 | 0=>T31n0
 | _=>.skip
theorem t31n0:T31 0=T31n0:=rfl
def X31:XC:=.seq (.ops [zx 4 (.mov (.const (.int .i64 0)))]) (.ref 0)
abbrev K31:List Nat:=[0,1,4]
theorem n31:Tryz.f31.ntmps=8:=by kernel_rfl
theorem r31:resT Tryz.f31.results.toList=some [4]:=by kernel_rfl
theorem x31:cmpF Tryz.prog Tryz.f31=some (expand T31 2 X31):=by kernel_rfl
def T53n0:XC:=.seq (.ops [zm 5 0,zm 6 1,zx 7 (.lib 0 [.tmp 5,.tmp 6]),zm 4 7]) .ret
def T53:Nat→XC
 | 0=>T53n0
 | _=>.skip
theorem t53n0:T53 0=T53n0:=rfl
def X53:XC:=.seq (.ops [zx 4 (.mov (.const (.int .i64 0)))]) (.ref 0)
abbrev K53:List Nat:=[0,1,4]
theorem n53:Tryz.f53.ntmps=8:=by kernel_rfl
theorem r53:resT Tryz.f53.results.toList=some [4]:=by kernel_rfl
theorem x53:cmpF Tryz.prog Tryz.f53=some (expand T53 2 X53):=by kernel_rfl
def T27n0:XC:=.seq (.ops [zx 26 (.build [.int .i64 0,.int .i64 0,.int .i64 0,.int .u64 0,.int .u64 0] []),zn (.store 5 (.tmp 6) (.tmp 26))]) .ret
def T27n1:XC:=.seq (.ops [zm 52 9,.mk (some 53) none (.callv (.tmp 52) [.const (.int .i64 7)]),zn (.store 5 (.tmp 6) (.tmp 53))]) .ret
def T27n2:XC:=.seq (.ops [zm 56 7,zf 57 4 3,zl 58 57,zx 59 (.conv .u64 (.tmp 58)),.mk (some 60) none (.callv (.tmp 56) [.tmp 59]),zn (.store 5 (.tmp 6) (.tmp 60))]) .ret
def T27n3:XC:=.seq (.ops [zm 63 7,zm 64 12,.mk (some 65) none (.callv (.tmp 63) [.tmp 64]),zn (.store 5 (.tmp 6) (.tmp 65))]) .ret
def T27n4:XC:=.seq (.ops [zm 68 7,zm 69 12,zm 70 13,zx 71 (.arith .add .u64 (.tmp 69) (.tmp 70)),.mk (some 72) none (.callv (.tmp 68) [.tmp 71]),zn (.store 5 (.tmp 6) (.tmp 72))]) .ret
def T27n5:XC:=.seq (.ops [zm 75 7,zm 76 12,zm 77 13,zx 78 (.arith .sub .u64 (.tmp 76) (.tmp 77)),.mk (some 79) none (.callv (.tmp 75) [.tmp 78]),zn (.store 5 (.tmp 6) (.tmp 79))]) .ret
def T27n6:XC:=.seq (.ops [zm 82 7,zm 83 12,zm 84 13,zx 85 (.arith .mul .u64 (.tmp 83) (.tmp 84)),.mk (some 86) none (.callv (.tmp 82) [.tmp 85]),zn (.store 5 (.tmp 6) (.tmp 86))]) .ret
def T27n7:XC:=.seq (.ops [zm 89 7,zm 90 12,zm 91 13,zx 92 (.bits .and .u64 (.tmp 90) (.tmp 91)),.mk (some 93) none (.callv (.tmp 89) [.tmp 92]),zn (.store 5 (.tmp 6) (.tmp 93))]) .ret
def T27n8:XC:=.seq (.ops [zm 96 7,zm 97 12,zm 98 13,zx 99 (.bits .xor .u64 (.tmp 97) (.tmp 98)),.mk (some 100) none (.callv (.tmp 96) [.tmp 99]),zn (.store 5 (.tmp 6) (.tmp 100))]) .ret
def T27n9:XC:=.seq (.ops [zm 103 7,zm 104 12,zm 105 13,zx 106 (.div .rem .u64 (.tmp 105) (.const (.int .u64 64))),zx 107 (.shift .shl .u64 (.tmp 104) (.tmp 106)),.mk (some 108) none (.callv (.tmp 103) [.tmp 107]),zn (.store 5 (.tmp 6) (.tmp 108))]) .ret
def T27n10:XC:=.seq (.ops [zm 111 7,zm 112 12,zm 113 13,zx 114 (.div .rem .u64 (.tmp 113) (.const (.int .u64 64))),zx 115 (.shift .shr .u64 (.tmp 112) (.tmp 114)),.mk (some 116) none (.callv (.tmp 111) [.tmp 115]),zn (.store 5 (.tmp 6) (.tmp 116))]) .ret
def T27n11:XC:=.seq (.ops [zl 119 5,zp 120 119,zf 121 1 3,zl 122 121,zm 123 14,zx 124 (.build [.int .i64 0,.int .i64 0,.int .i64 0,.int .u64 0,.int .u64 0] [(0,1,.const (.int .i64 3)),(1,1,.tmp 120),(2,1,.tmp 122),(4,1,.tmp 123)]),zn (.store 5 (.tmp 6) (.tmp 124))]) .ret
def T27n12:XC:=.seq (.ops [zl 127 5,zp 128 127,zm 129 11,zm 130 14,zx 131 (.build [.int .i64 0,.int .i64 0,.int .i64 0,.int .u64 0,.int .u64 0] [(0,1,.const (.int .i64 4)),(1,1,.tmp 128),(3,1,.tmp 129),(4,1,.tmp 130)]),zn (.store 5 (.tmp 6) (.tmp 131))]) .ret
def T27n13:XC:=.seq (.ops [zm 134 8,.mk (some 135) none (.callv (.tmp 134) [.const (.bool true)]),zn (.store 5 (.tmp 6) (.tmp 135))]) .ret
def T27n14:XC:=.seq (.ops [zm 138 8,zm 139 11,zm 140 12,zx 141 (.cmp .eql .u64 (.tmp 139) (.tmp 140)),.mk (some 142) none (.callv (.tmp 138) [.tmp 141]),zn (.store 5 (.tmp 6) (.tmp 142))]) .ret
def T27n15:XC:=.seq (.ops [zm 145 8,zm 146 11,zm 147 12,zx 148 (.cmp .neq .u64 (.tmp 146) (.tmp 147)),.mk (some 149) none (.callv (.tmp 145) [.tmp 148]),zn (.store 5 (.tmp 6) (.tmp 149))]) .ret
def T27n16:XC:=.seq (.ops [zm 152 8,zm 153 11,zm 154 12,zx 155 (.cmp .lss .u64 (.tmp 153) (.tmp 154)),.mk (some 156) none (.callv (.tmp 152) [.tmp 155]),zn (.store 5 (.tmp 6) (.tmp 156))]) .ret
def T27n17:XC:=.seq (.ops [zm 159 9,.mk (some 160) none (.callv (.tmp 159) [.const (.int .i64 5)]),zn (.store 5 (.tmp 6) (.tmp 160))]) .ret
def T27n18:XC:=.seq (.ops [zx 158 (.cmp .eql .i64 (.tmp 49) (.const (.int .i64 17))),zm 157 158]) (.cond (.tmp 157) (.ref 17) .skip)
def T27n19:XC:=.seq (.ops [zx 151 (.cmp .eql .i64 (.tmp 49) (.const (.int .i64 16))),zm 150 151]) (.cond (.tmp 150) (.ref 16) (.ref 18))
def T27n20:XC:=.seq (.ops [zx 144 (.cmp .eql .i64 (.tmp 49) (.const (.int .i64 15))),zm 143 144]) (.cond (.tmp 143) (.ref 15) (.ref 19))
def T27n21:XC:=.seq (.ops [zx 137 (.cmp .eql .i64 (.tmp 49) (.const (.int .i64 14))),zm 136 137]) (.cond (.tmp 136) (.ref 14) (.ref 20))
def T27n22:XC:=.seq (.ops [zx 133 (.cmp .eql .i64 (.tmp 49) (.const (.int .i64 13))),zm 132 133]) (.cond (.tmp 132) (.ref 13) (.ref 21))
def T27n23:XC:=.seq (.ops [zx 126 (.cmp .eql .i64 (.tmp 49) (.const (.int .i64 12))),zm 125 126]) (.cond (.tmp 125) (.ref 12) (.ref 22))
def T27n24:XC:=.seq (.ops [zx 118 (.cmp .eql .i64 (.tmp 49) (.const (.int .i64 11))),zm 117 118]) (.cond (.tmp 117) (.ref 11) (.ref 23))
def T27n25:XC:=.seq (.ops [zx 110 (.cmp .eql .i64 (.tmp 49) (.const (.int .i64 10))),zm 109 110]) (.cond (.tmp 109) (.ref 10) (.ref 24))
def T27n26:XC:=.seq (.ops [zx 102 (.cmp .eql .i64 (.tmp 49) (.const (.int .i64 9))),zm 101 102]) (.cond (.tmp 101) (.ref 9) (.ref 25))
def T27n27:XC:=.seq (.ops [zx 95 (.cmp .eql .i64 (.tmp 49) (.const (.int .i64 8))),zm 94 95]) (.cond (.tmp 94) (.ref 8) (.ref 26))
def T27n28:XC:=.seq (.ops [zx 88 (.cmp .eql .i64 (.tmp 49) (.const (.int .i64 7))),zm 87 88]) (.cond (.tmp 87) (.ref 7) (.ref 27))
def T27n29:XC:=.seq (.ops [zx 81 (.cmp .eql .i64 (.tmp 49) (.const (.int .i64 6))),zm 80 81]) (.cond (.tmp 80) (.ref 6) (.ref 28))
def T27n30:XC:=.seq (.ops [zx 74 (.cmp .eql .i64 (.tmp 49) (.const (.int .i64 5))),zm 73 74]) (.cond (.tmp 73) (.ref 5) (.ref 29))
def T27n31:XC:=.seq (.ops [zx 67 (.cmp .eql .i64 (.tmp 49) (.const (.int .i64 4))),zm 66 67]) (.cond (.tmp 66) (.ref 4) (.ref 30))
def T27n32:XC:=.seq (.ops [zx 62 (.cmp .eql .i64 (.tmp 49) (.const (.int .i64 3))),zm 61 62]) (.cond (.tmp 61) (.ref 3) (.ref 31))
def T27n33:XC:=.seq (.ops [zx 55 (.cmp .eql .i64 (.tmp 49) (.const (.int .i64 2))),zm 54 55]) (.cond (.tmp 54) (.ref 2) (.ref 32))
def T27n34:XC:=.blk 0 (.seq (.ops [zx 51 (.cmp .eql .i64 (.tmp 49) (.const (.int .i64 1))),zm 50 51]) (.cond (.tmp 50) (.ref 1) (.ref 33)))
def T27n35:XC:=.seq (.ops [zm 161 9,.mk (some 162) none (.callv (.tmp 161) [.const (.int .i64 6)]),zn (.store 5 (.tmp 6) (.tmp 162))]) .ret
def T27n36:XC:=.seq (.seq (.ops [zf 48 0 3,zl 49 48]) (.ref 34)) (.ref 35)
def T27n37:XC:=.seq (.ops [zm 43 12,zf 44 4 3,zl 45 44,zx 46 (.conv .u64 (.tmp 45)),zx 47 (.arith .add .u64 (.tmp 43) (.tmp 46)),zm 14 47]) (.ref 36)
def T27n38:XC:=.seq (.ops [zm 31 10,zf 32 1 3,zm 35 10,zf 36 2 3,zm 39 10,zf 40 3 3,zl 33 32,zl 37 36,zl 41 40,.mk (some 34) none (.callv (.tmp 31) [.tmp 33]),.mk none none (.still 41 (.load [.int .i64] false (.tmp 40))),.mk none none (.still 37 (.load [.int .i64] false (.tmp 36))),.mk (some 38) none (.callv (.tmp 35) [.tmp 37]),.mk none none (.still 41 (.load [.int .i64] false (.tmp 40))),.mk (some 42) none (.callv (.tmp 39) [.tmp 41]),zm 11 34,zm 12 38,zm 13 42]) (.ref 37)
def T27n39:XC:=.seq (.ops [zx 30 (.mkfn (.func 51) [] [.tmp 4]),zm 10 30]) (.ref 38)
def T27n40:XC:=.seq (.ops [zx 29 (.mkfn (.func 50) [] [.tmp 5]),zm 9 29]) (.ref 39)
def T27n41:XC:=.seq (.ops [zx 28 (.mkfn (.func 49) [] [.tmp 5,.tmp 3]),zm 8 28]) (.ref 40)
def T27n42:XC:=.seq (.ops [zx 27 (.mkfn (.func 48) [] [.tmp 5,.tmp 3]),zm 7 27]) (.ref 41)
def T27n43:XC:=.seq (.seq (.ops [zi 15 3,zc 16 11 [.tmp 15],zx 17 (.not (.tmp 16)),zm 18 17,zg 19 18 false (.load [.int .i64] false (.tmp 5)),zg 20 18 false (.cmp .lss .i64 (.tmp 19) (.const (.int .i64 0))),zx 21 (.pick (.tmp 18) (.const (.bool true)) (.tmp 20)),zm 22 21,zg 23 22 false (.load [.int .i64] false (.tmp 5)),zg 24 22 false (.cmp .geq .i64 (.tmp 23) (.const (.int .i64 1024))),zx 25 (.pick (.tmp 22) (.const (.bool true)) (.tmp 24))]) (.cond (.tmp 25) (.ref 0) .skip)) (.ref 42)
def T27:Nat→XC
 | 0=>T27n0
 | 1=>T27n1
 | 2=>T27n2
 | 3=>T27n3
 | 4=>T27n4
 | 5=>T27n5
 | 6=>T27n6
 | 7=>T27n7
 | 8=>T27n8
 | 9=>T27n9
 | 10=>T27n10
 | 11=>T27n11
 | 12=>T27n12
 | 13=>T27n13
 | 14=>T27n14
 | 15=>T27n15
 | 16=>T27n16
 | 17=>T27n17
 | 18=>T27n18
 | 19=>T27n19
 | 20=>T27n20
 | 21=>T27n21
 | 22=>T27n22
 | 23=>T27n23
 | 24=>T27n24
 | 25=>T27n25
 | 26=>T27n26
 | 27=>T27n27
 | 28=>T27n28
 | 29=>T27n29
 | 30=>T27n30
 | 31=>T27n31
 | 32=>T27n32
 | 33=>T27n33
 | 34=>T27n34
 | 35=>T27n35
 | 36=>T27n36
 | 37=>T27n37
 | 38=>T27n38
 | 39=>T27n39
 | 40=>T27n40
 | 41=>T27n41
 | 42=>T27n42
 | 43=>T27n43
 | _=>.skip
theorem t27n0:T27 0=T27n0:=rfl
theorem t27n1:T27 1=T27n1:=rfl
theorem t27n2:T27 2=T27n2:=rfl
theorem t27n3:T27 3=T27n3:=rfl
theorem t27n4:T27 4=T27n4:=rfl
theorem t27n5:T27 5=T27n5:=rfl
theorem t27n6:T27 6=T27n6:=rfl
theorem t27n7:T27 7=T27n7:=rfl
theorem t27n8:T27 8=T27n8:=rfl
theorem t27n9:T27 9=T27n9:=rfl
theorem t27n10:T27 10=T27n10:=rfl
theorem t27n11:T27 11=T27n11:=rfl
theorem t27n12:T27 12=T27n12:=rfl
theorem t27n13:T27 13=T27n13:=rfl
theorem t27n14:T27 14=T27n14:=rfl
theorem t27n15:T27 15=T27n15:=rfl
theorem t27n16:T27 16=T27n16:=rfl
theorem t27n17:T27 17=T27n17:=rfl
theorem t27n18:T27 18=T27n18:=rfl
theorem t27n19:T27 19=T27n19:=rfl
theorem t27n20:T27 20=T27n20:=rfl
theorem t27n21:T27 21=T27n21:=rfl
theorem t27n22:T27 22=T27n22:=rfl
theorem t27n23:T27 23=T27n23:=rfl
theorem t27n24:T27 24=T27n24:=rfl
theorem t27n25:T27 25=T27n25:=rfl
theorem t27n26:T27 26=T27n26:=rfl
theorem t27n27:T27 27=T27n27:=rfl
theorem t27n28:T27 28=T27n28:=rfl
theorem t27n29:T27 29=T27n29:=rfl
theorem t27n30:T27 30=T27n30:=rfl
theorem t27n31:T27 31=T27n31:=rfl
theorem t27n32:T27 32=T27n32:=rfl
theorem t27n33:T27 33=T27n33:=rfl
theorem t27n34:T27 34=T27n34:=rfl
theorem t27n35:T27 35=T27n35:=rfl
theorem t27n36:T27 36=T27n36:=rfl
theorem t27n37:T27 37=T27n37:=rfl
theorem t27n38:T27 38=T27n38:=rfl
theorem t27n39:T27 39=T27n39:=rfl
theorem t27n40:T27 40=T27n40:=rfl
theorem t27n41:T27 41=T27n41:=rfl
theorem t27n42:T27 42=T27n42:=rfl
theorem t27n43:T27 43=T27n43:=rfl
def X27:XC:=.seq (.ops [zx 3 (.box 47 5 (.tmp 0)),zx 4 (.box 24 8 (.tmp 1)),zx 5 (.box 3 1 (.tmp 2)),zx 6 (.alloc 39 [.int .i64 0,.int .i64 0,.int .i64 0,.int .u64 0,.int .u64 0])]) (.ref 43)
abbrev K27:List Nat:=[0,1,2,3,4,5,6,7,8,9,10,11,12,13,14,25,49,50,54,61,66,73,80,87,94,101,109,117,125,132,136,143,150,157]
theorem n27:Tryz.f27.ntmps=163:=by kernel_rfl
theorem r27:rvOf Tryz.prog Tryz.f27.results.toList=some [RV.cell 6 5 true]:=by kernel_rfl
theorem x27:cmpF Tryz.prog Tryz.f27=some (expand T27 45 X27):=by kernel_rfl
def T48n0:XC:=.seq (.ops [zl 5 1,zp 6 5,zf 7 1 2,zl 8 7,zm 9 0,zx 10 (.build [.int .i64 0,.int .i64 0,.int .i64 0,.int .u64 0,.int .u64 0] [(0,1,.const (.int .i64 1)),(1,1,.tmp 6),(2,1,.tmp 8),(3,1,.tmp 9)]),zn (.store 5 (.tmp 4) (.tmp 10))]) .ret
def T48:Nat→XC
 | 0=>T48n0
 | _=>.skip
theorem t48n0:T48 0=T48n0:=rfl
def X48:XC:=.seq (.ops [zx 4 (.alloc 39 [.int .i64 0,.int .i64 0,.int .i64 0,.int .u64 0,.int .u64 0])]) (.ref 0)
abbrev K48:List Nat:=[0,1,2,4]
theorem n48:Tryz.f48.ntmps=11:=by kernel_rfl
theorem r48:rvOf Tryz.prog Tryz.f48.results.toList=some [RV.cell 4 5 true]:=by kernel_rfl
theorem x48:cmpF Tryz.prog Tryz.f48=some (expand T48 2 X48):=by kernel_rfl
def T49n0:XC:=.seq (.ops [zl 7 1,zp 8 7,zx 9 (.build [.int .i64 0,.int .i64 0,.int .i64 0,.int .u64 0,.int .u64 0] [(0,1,.const (.int .i64 2)),(1,1,.tmp 8)]),zn (.store 5 (.tmp 4) (.tmp 9))]) .ret
def T49n1:XC:=.seq (.ops [zx 18 (.build [.int .i64 0,.int .i64 0,.int .i64 0,.int .u64 0,.int .u64 0] []),zn (.store 5 (.tmp 4) (.tmp 18))]) .ret
def T49n2:XC:=.seq (.ops [zf 19 4 2,zl 20 19,zx 21 (.build [.int .i64 0,.int .i64 0,.int .i64 0,.int .u64 0,.int .u64 0] [(0,1,.const (.int .i64 2)),(1,1,.tmp 20)]),zn (.store 5 (.tmp 4) (.tmp 21))]) .ret
def T49n3:XC:=.seq (.seq (.ops [zf 10 4 2,zl 11 10,zx 12 (.cmp .lss .i64 (.tmp 11) (.const (.int .i64 0))),zm 13 12,zg 14 13 false (.fld 4 (.tmp 2)),zg 15 13 false (.load [.int .i64] false (.tmp 14)),zg 16 13 false (.cmp .gtr .i64 (.tmp 15) (.const (.int .i64 1024))),zx 17 (.pick (.tmp 13) (.const (.bool true)) (.tmp 16))]) (.cond (.tmp 17) (.ref 1) .skip)) (.ref 2)
def T49n4:XC:=.seq (.seq (.ops [zm 5 0,zx 6 (.not (.tmp 5))]) (.cond (.tmp 6) (.ref 0) .skip)) (.ref 3)
def T49:Nat→XC
 | 0=>T49n0
 | 1=>T49n1
 | 2=>T49n2
 | 3=>T49n3
 | 4=>T49n4
 | _=>.skip
theorem t49n0:T49 0=T49n0:=rfl
theorem t49n1:T49 1=T49n1:=rfl
theorem t49n2:T49 2=T49n2:=rfl
theorem t49n3:T49 3=T49n3:=rfl
theorem t49n4:T49 4=T49n4:=rfl
def X49:XC:=.seq (.ops [zx 4 (.alloc 39 [.int .i64 0,.int .i64 0,.int .i64 0,.int .u64 0,.int .u64 0])]) (.ref 4)
abbrev K49:List Nat:=[0,1,2,4,6,17]
theorem n49:Tryz.f49.ntmps=22:=by kernel_rfl
theorem r49:rvOf Tryz.prog Tryz.f49.results.toList=some [RV.cell 4 5 true]:=by kernel_rfl
theorem x49:cmpF Tryz.prog Tryz.f49=some (expand T49 6 X49):=by kernel_rfl
def T50n0:XC:=.seq (.ops [zm 4 0,zl 5 1,zp 6 5,zx 7 (.build [.int .i64 0,.int .i64 0,.int .i64 0,.int .u64 0,.int .u64 0] [(0,1,.tmp 4),(1,1,.tmp 6)]),zn (.store 5 (.tmp 3) (.tmp 7))]) .ret
def T50:Nat→XC
 | 0=>T50n0
 | _=>.skip
theorem t50n0:T50 0=T50n0:=rfl
def X50:XC:=.seq (.ops [zx 3 (.alloc 39 [.int .i64 0,.int .i64 0,.int .i64 0,.int .u64 0,.int .u64 0])]) (.ref 0)
abbrev K50:List Nat:=[0,1,3]
theorem n50:Tryz.f50.ntmps=8:=by kernel_rfl
theorem r50:rvOf Tryz.prog Tryz.f50.results.toList=some [RV.cell 3 5 true]:=by kernel_rfl
theorem x50:cmpF Tryz.prog Tryz.f50=some (expand T50 2 X50):=by kernel_rfl
def T51n0:XC:=.seq (.ops [zm 4 0,zx 5 (.bits .and .i64 (.tmp 4) (.const (.int .i64 7))),zx 6 (.idxA 8 1 (.tmp 1) (.tmp 5)),zx 7 (.load [.int .u64] false (.tmp 6)),zm 3 7]) .ret
def T51:Nat→XC
 | 0=>T51n0
 | _=>.skip
theorem t51n0:T51 0=T51n0:=rfl
def X51:XC:=.seq (.ops [zx 3 (.mov (.const (.int .u64 0)))]) (.ref 0)
abbrev K51:List Nat:=[0,1,3]
theorem n51:Tryz.f51.ntmps=8:=by kernel_rfl
theorem r51:resT Tryz.f51.results.toList=some [3]:=by kernel_rfl
theorem x51:cmpF Tryz.prog Tryz.f51=some (expand T51 2 X51):=by kernel_rfl
attribute [go_sem] t11n0 t11n1 t11n2 t11n3 t11n4 t11n5 t11n6 t11n7 T11n0 T11n1 T11n2 T11n3 T11n4 T11n5 T11n6 T11n7 X11
attribute [go_sem] t30n0 t30n1 t30n2 T30n0 T30n1 T30n2 X30
attribute [go_sem] t31n0 T31n0 X31
attribute [go_sem] t53n0 T53n0 X53
attribute [go_sem] t27n0 t27n1 t27n2 t27n3 t27n4 t27n5 t27n6 t27n7 t27n8 t27n9 t27n10 t27n11 t27n12 t27n13 t27n14 t27n15 t27n16 t27n17 t27n18 t27n19 t27n20 t27n21 t27n22 t27n23 t27n24 t27n25 t27n26 t27n27 t27n28 t27n29 t27n30 t27n31 t27n32 t27n33 t27n34 t27n35 t27n36 t27n37 t27n38 t27n39 t27n40 t27n41 t27n42 t27n43 T27n0 T27n1 T27n2 T27n3 T27n4 T27n5 T27n6 T27n7 T27n8 T27n9 T27n10 T27n11 T27n12 T27n13 T27n14 T27n15 T27n16 T27n17 T27n18 T27n19 T27n20 T27n21 T27n22 T27n23 T27n24 T27n25 T27n26 T27n27 T27n28 T27n29 T27n30 T27n31 T27n32 T27n33 T27n34 T27n35 T27n36 T27n37 T27n38 T27n39 T27n40 T27n41 T27n42 T27n43 X27
attribute [go_sem] t48n0 T48n0 X48
attribute [go_sem] t49n0 t49n1 t49n2 t49n3 t49n4 T49n0 T49n1 T49n2 T49n3 T49n4 X49
attribute [go_sem] t50n0 T50n0 X50
attribute [go_sem] t51n0 T51n0 X51
end Go.Proofs.YtgghmmjoplddbaaGreatDoor
