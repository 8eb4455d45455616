/- Printed by program: the small code of functions, and that it is theirs. -/
import Derived.Test.YtlbiogokpadaoaaGreatDoorSxStill
import Derived.Test.YtlbiogokpadaoaaGreatDoorProg
import Derived.KernelRfl
set_option linter.unusedSimpArgs false
set_option linter.unusedVariables false
set_option linter.unnecessarySimpa false
namespace Go.Proofs.YtlbiogokpadaoaaGreatDoor
open Go Go.Sx
set_option maxRecDepth 100000
def T21n0:XC:=.seq (.ops [zx 2 (.mov (.const (.bool false)))]) .ret
def T21n1:XC:=.seq (.ops [zm 24 3,zm 25 5,zx 26 (.ixT (.const (.string (ByteArray.mk (Array.mk [UInt8.ofNat 65,UInt8.ofNat 66,UInt8.ofNat 67])))) (.tmp 25)),zc 27 38 [.tmp 24,.tmp 26],zx 28 (.cmp .geq .i64 (.tmp 27) (.const (.int .i64 0))),zm 29 28,zh 30 29 true 6,zg 31 29 true (.cmp .lss .i64 (.tmp 30) (.const (.int .i64 0))),zh 32 29 true 31,zh 33 32 false 6,zg 34 32 false (.cmp .geq .i64 (.tmp 33) (.const (.int .i64 8))),zg 35 29 true (.pick (.tmp 32) (.const (.bool true)) (.tmp 34)),zx 36 (.pick (.tmp 29) (.tmp 35) (.const (.bool false)))]) (.cond (.tmp 36) (.ref 0) .skip)
def T21n2:XC:=.seq (.blk 1 (.seq (.ops [zm 22 20,zx 23 (.ixA 3 1 false (.tmp 19) (.tmp 20)),zm 5 22,zm 6 23]) (.ref 1))) (.ops [zp 37 20,zm 20 37])
def T21n3:XC:=.seq (.cond (.tmp 21) .skip (.exit 0)) (.ref 2)
def T21n4:XC:=.seq (.ops [zx 21 (.cmp .lss .i64 (.tmp 20) (.const (.int .i64 3)))]) (.ref 3)
def T21n5:XC:=.seq (.ops [zm 38 4,zm 2 38]) .ret
def T21n6:XC:=.seq (.seq (.ops [zf 13 1 1,zl 14 13,zf 15 2 1,zl 16 15,zf 17 3 1,zl 18 17,zx 19 (.build [.int .i64 0,.int .i64 0,.int .i64 0] [(0,1,.tmp 14),(1,1,.tmp 16),(2,1,.tmp 18)]),zx 20 (.mov (.const (.int .i64 0)))]) (.blk 0 (.loop (.ref 4)))) (.ref 5)
def T21n7:XC:=.seq (.ops [zf 8 0 1,zl 9 8,zc 10 37 [.tmp 9],zm 7 10,zy 11 7 0,zy 12 7 1,zm 3 11,zm 4 12]) (.ref 6)
def T21:Nat→XC
 | 0=>T21n0
 | 1=>T21n1
 | 2=>T21n2
 | 3=>T21n3
 | 4=>T21n4
 | 5=>T21n5
 | 6=>T21n6
 | 7=>T21n7
 | _=>.skip
theorem t21n0:T21 0=T21n0:=rfl
theorem t21n1:T21 1=T21n1:=rfl
theorem t21n2:T21 2=T21n2:=rfl
theorem t21n3:T21 3=T21n3:=rfl
theorem t21n4:T21 4=T21n4:=rfl
theorem t21n5:T21 5=T21n5:=rfl
theorem t21n6:T21 6=T21n6:=rfl
theorem t21n7:T21 7=T21n7:=rfl
def X21:XC:=.seq (.ops [zx 1 (.box 41 5 (.tmp 0)),zx 2 (.mov (.const (.bool false)))]) (.ref 7)
abbrev K21:List Nat:=[0,1,2,3,4,5,6,19,20,21,36]
theorem n21:Tryz.f21.ntmps=39:=by kernel_rfl
theorem r21:resT Tryz.f21.results.toList=some [2]:=by kernel_rfl
theorem x21:cmpF Tryz.prog Tryz.f21=some (expand T21 9 X21):=by kernel_rfl
def T37n0:XC:=.seq (.ops [zx 2 (.mov (.const (.string (ByteArray.mk (Array.mk []))))),zx 3 (.mov (.const (.bool false)))]) .ret
def T37n1:XC:=.seq (.ops [zm 10 0,zx 11 (.idxA 19 2 (.global 0) (.tmp 10)),zf 12 1 11,zx 13 (.load [.str] false (.tmp 12)),zm 2 13,zx 3 (.mov (.const (.bool true)))]) .ret
def T37n2:XC:=.seq (.seq (.ops [zm 4 0,zx 5 (.cmp .lss .i64 (.tmp 4) (.const (.int .i64 1))),zm 6 5,zh 7 6 false 0,zg 8 6 false (.cmp .geq .i64 (.tmp 7) (.const (.int .i64 19))),zx 9 (.pick (.tmp 6) (.const (.bool true)) (.tmp 8))]) (.cond (.tmp 9) (.ref 0) .skip)) (.ref 1)
def T37:Nat→XC
 | 0=>T37n0
 | 1=>T37n1
 | 2=>T37n2
 | _=>.skip
theorem t37n0:T37 0=T37n0:=rfl
theorem t37n1:T37 1=T37n1:=rfl
theorem t37n2:T37 2=T37n2:=rfl
def X37:XC:=.seq (.ops [zx 2 (.mov (.const (.string (ByteArray.mk (Array.mk []))))),zx 3 (.mov (.const (.bool false)))]) (.ref 2)
abbrev K37:List Nat:=[0,2,3,9]
theorem n37:Tryz.f37.ntmps=14:=by kernel_rfl
theorem r37:resT Tryz.f37.results.toList=some [2,3]:=by kernel_rfl
theorem x37:cmpF Tryz.prog Tryz.f37=some (expand T37 4 X37):=by kernel_rfl
def T38n0:XC:=.seq (.ops [zm 5 0,zm 6 1,zc 7 71 [.tmp 5,.tmp 6],zm 4 7]) .ret
def T38:Nat→XC
 | 0=>T38n0
 | _=>.skip
theorem t38n0:T38 0=T38n0:=rfl
def X38:XC:=.seq (.ops [zx 4 (.mov (.const (.int .i64 0)))]) (.ref 0)
abbrev K38:List Nat:=[0,1,4]
theorem n38:Tryz.f38.ntmps=8:=by kernel_rfl
theorem r38:resT Tryz.f38.results.toList=some [4]:=by kernel_rfl
theorem x38:cmpF Tryz.prog Tryz.f38=some (expand T38 2 X38):=by kernel_rfl
def T71n0:XC:=.seq (.ops [zm 5 0,zm 6 1,zx 7 (.lib 0 [.tmp 5,.tmp 6]),zm 4 7]) .ret
def T71:Nat→XC
 | 0=>T71n0
 | _=>.skip
theorem t71n0:T71 0=T71n0:=rfl
def X71:XC:=.seq (.ops [zx 4 (.mov (.const (.int .i64 0)))]) (.ref 0)
abbrev K71:List Nat:=[0,1,4]
theorem n71:Tryz.f71.ntmps=8:=by kernel_rfl
theorem r71:resT Tryz.f71.results.toList=some [4]:=by kernel_rfl
theorem x71:cmpF Tryz.prog Tryz.f71=some (expand T71 2 X71):=by kernel_rfl
def T119n0:XC:=.seq (.ops [zx 9 (.build [.string (ByteArray.mk (Array.mk [])),.bool false,.bool false,.bool false,.bool false] [(0,1,.const (.string (ByteArray.mk (Array.mk [UInt8.ofNat 104,UInt8.ofNat 97,UInt8.ofNat 108,UInt8.ofNat 116]))))]),zn (.store 5 (.tmp 2) (.tmp 9)),zx 3 (.mov (.const (.bool true)))]) .ret
def T119n1:XC:=.seq (.ops [zx 12 (.build [.string (ByteArray.mk (Array.mk [])),.bool false,.bool false,.bool false,.bool false] [(0,1,.const (.string (ByteArray.mk (Array.mk [UInt8.ofNat 115,UInt8.ofNat 101,UInt8.ofNat 116])))),(1,1,.const (.bool true)),(4,1,.const (.bool true))]),zn (.store 5 (.tmp 2) (.tmp 12)),zx 3 (.mov (.const (.bool true)))]) .ret
def T119n2:XC:=.seq (.ops [zx 15 (.build [.string (ByteArray.mk (Array.mk [])),.bool false,.bool false,.bool false,.bool false] [(0,1,.const (.string (ByteArray.mk (Array.mk [UInt8.ofNat 109,UInt8.ofNat 111,UInt8.ofNat 118])))),(1,1,.const (.bool true)),(2,1,.const (.bool true))]),zn (.store 5 (.tmp 2) (.tmp 15)),zx 3 (.mov (.const (.bool true)))]) .ret
def T119n3:XC:=.cond (.tmp 16) .skip (.ops [zx 23 (.cmp .eql .i64 (.tmp 6) (.const (.int .i64 10))),zm 16 23])
def T119n4:XC:=.seq (.ops [zx 22 (.cmp .eql .i64 (.tmp 6) (.const (.int .i64 9))),zm 16 22]) (.ref 3)
def T119n5:XC:=.seq (.ops [zx 21 (.cmp .eql .i64 (.tmp 6) (.const (.int .i64 8))),zm 16 21]) (.cond (.tmp 16) .skip (.ref 4))
def T119n6:XC:=.seq (.ops [zx 20 (.cmp .eql .i64 (.tmp 6) (.const (.int .i64 7))),zm 16 20]) (.cond (.tmp 16) .skip (.ref 5))
def T119n7:XC:=.seq (.ops [zx 19 (.cmp .eql .i64 (.tmp 6) (.const (.int .i64 6))),zm 16 19]) (.cond (.tmp 16) .skip (.ref 6))
def T119n8:XC:=.seq (.ops [zx 18 (.cmp .eql .i64 (.tmp 6) (.const (.int .i64 5))),zm 16 18]) (.cond (.tmp 16) .skip (.ref 7))
def T119n9:XC:=.seq (.ops [zm 25 4,zm 26 0,zx 27 (.arith .sub .i64 (.tmp 26) (.const (.int .i64 4))),zd 28 1 25 27,zx 29 (.load [.str] false (.tmp 28)),zx 30 (.build [.string (ByteArray.mk (Array.mk [])),.bool false,.bool false,.bool false,.bool false] [(0,1,.tmp 29),(1,1,.const (.bool true)),(2,1,.const (.bool true)),(3,1,.const (.bool true))]),zn (.store 5 (.tmp 2) (.tmp 30)),zx 3 (.mov (.const (.bool true)))]) .ret
def T119n10:XC:=.seq (.ops [zx 24 (.buildS 9 7 1 [.string (ByteArray.mk (Array.mk []))] [(0,.const (.string (ByteArray.mk (Array.mk [UInt8.ofNat 97,UInt8.ofNat 100,UInt8.ofNat 100])))),(1,.const (.string (ByteArray.mk (Array.mk [UInt8.ofNat 115,UInt8.ofNat 117,UInt8.ofNat 98])))),(2,.const (.string (ByteArray.mk (Array.mk [UInt8.ofNat 109,UInt8.ofNat 117,UInt8.ofNat 108])))),(3,.const (.string (ByteArray.mk (Array.mk [UInt8.ofNat 97,UInt8.ofNat 110,UInt8.ofNat 100])))),(4,.const (.string (ByteArray.mk (Array.mk [UInt8.ofNat 120,UInt8.ofNat 111,UInt8.ofNat 114])))),(5,.const (.string (ByteArray.mk (Array.mk [UInt8.ofNat 115,UInt8.ofNat 104,UInt8.ofNat 108])))),(6,.const (.string (ByteArray.mk (Array.mk [UInt8.ofNat 115,UInt8.ofNat 104,UInt8.ofNat 114]))))]),zm 4 24]) (.ref 9)
def T119n11:XC:=.cond (.tmp 31) .skip (.ops [zx 36 (.cmp .eql .i64 (.tmp 6) (.const (.int .i64 16))),zm 31 36])
def T119n12:XC:=.seq (.ops [zx 35 (.cmp .eql .i64 (.tmp 6) (.const (.int .i64 15))),zm 31 35]) (.ref 11)
def T119n13:XC:=.seq (.ops [zx 34 (.cmp .eql .i64 (.tmp 6) (.const (.int .i64 14))),zm 31 34]) (.cond (.tmp 31) .skip (.ref 12))
def T119n14:XC:=.seq (.ops [zx 33 (.cmp .eql .i64 (.tmp 6) (.const (.int .i64 12))),zm 31 33]) (.cond (.tmp 31) .skip (.ref 13))
def T119n15:XC:=.seq (.ops [zm 38 5,zm 39 0,zx 40 (.arith .sub .i64 (.tmp 39) (.const (.int .i64 11))),zd 41 1 38 40,zx 42 (.load [.str] false (.tmp 41)),zx 43 (.build [.string (ByteArray.mk (Array.mk [])),.bool false,.bool false,.bool false,.bool false] [(0,1,.tmp 42),(1,1,.const (.bool true)),(2,1,.const (.bool true)),(4,1,.const (.bool true))]),zn (.store 5 (.tmp 2) (.tmp 43)),zx 3 (.mov (.const (.bool true)))]) .ret
def T119n16:XC:=.seq (.ops [zx 37 (.buildS 9 6 1 [.string (ByteArray.mk (Array.mk []))] [(0,.const (.string (ByteArray.mk (Array.mk [UInt8.ofNat 108,UInt8.ofNat 111,UInt8.ofNat 97,UInt8.ofNat 100])))),(1,.const (.string (ByteArray.mk (Array.mk [UInt8.ofNat 115,UInt8.ofNat 116,UInt8.ofNat 111,UInt8.ofNat 114,UInt8.ofNat 101])))),(2,.const (.string (ByteArray.mk (Array.mk [])))),(3,.const (.string (ByteArray.mk (Array.mk [UInt8.ofNat 101,UInt8.ofNat 113])))),(4,.const (.string (ByteArray.mk (Array.mk [UInt8.ofNat 110,UInt8.ofNat 101])))),(5,.const (.string (ByteArray.mk (Array.mk [UInt8.ofNat 108,UInt8.ofNat 116]))))]),zm 5 37]) (.ref 15)
def T119n17:XC:=.seq (.ops [zx 46 (.build [.string (ByteArray.mk (Array.mk [])),.bool false,.bool false,.bool false,.bool false] [(0,1,.const (.string (ByteArray.mk (Array.mk [UInt8.ofNat 106,UInt8.ofNat 117,UInt8.ofNat 109,UInt8.ofNat 112])))),(4,1,.const (.bool true))]),zn (.store 5 (.tmp 2) (.tmp 46)),zx 3 (.mov (.const (.bool true)))]) .ret
def T119n18:XC:=.seq (.ops [zx 49 (.build [.string (ByteArray.mk (Array.mk [])),.bool false,.bool false,.bool false,.bool false] [(0,1,.const (.string (ByteArray.mk (Array.mk [UInt8.ofNat 98,UInt8.ofNat 101,UInt8.ofNat 103,UInt8.ofNat 105,UInt8.ofNat 110]))))]),zn (.store 5 (.tmp 2) (.tmp 49)),zx 3 (.mov (.const (.bool true)))]) .ret
def T119n19:XC:=.seq (.ops [zx 52 (.build [.string (ByteArray.mk (Array.mk [])),.bool false,.bool false,.bool false,.bool false] [(0,1,.const (.string (ByteArray.mk (Array.mk [UInt8.ofNat 101,UInt8.ofNat 110,UInt8.ofNat 100]))))]),zn (.store 5 (.tmp 2) (.tmp 52)),zx 3 (.mov (.const (.bool true)))]) .ret
def T119n20:XC:=.seq (.ops [zx 51 (.cmp .eql .i64 (.tmp 6) (.const (.int .i64 18))),zm 50 51]) (.cond (.tmp 50) (.ref 19) .skip)
def T119n21:XC:=.seq (.ops [zx 48 (.cmp .eql .i64 (.tmp 6) (.const (.int .i64 17))),zm 47 48]) (.cond (.tmp 47) (.ref 18) (.ref 20))
def T119n22:XC:=.seq (.ops [zx 45 (.cmp .eql .i64 (.tmp 6) (.const (.int .i64 13))),zm 44 45]) (.cond (.tmp 44) (.ref 17) (.ref 21))
def T119n23:XC:=.seq (.seq (.ops [zx 32 (.cmp .eql .i64 (.tmp 6) (.const (.int .i64 11))),zm 31 32]) (.cond (.tmp 31) .skip (.ref 14))) (.cond (.tmp 31) (.ref 16) (.ref 22))
def T119n24:XC:=.seq (.seq (.ops [zx 17 (.cmp .eql .i64 (.tmp 6) (.const (.int .i64 4))),zm 16 17]) (.cond (.tmp 16) .skip (.ref 8))) (.cond (.tmp 16) (.ref 10) (.ref 23))
def T119n25:XC:=.seq (.ops [zx 14 (.cmp .eql .i64 (.tmp 6) (.const (.int .i64 3))),zm 13 14]) (.cond (.tmp 13) (.ref 2) (.ref 24))
def T119n26:XC:=.seq (.ops [zx 11 (.cmp .eql .i64 (.tmp 6) (.const (.int .i64 2))),zm 10 11]) (.cond (.tmp 10) (.ref 1) (.ref 25))
def T119n27:XC:=.blk 0 (.seq (.ops [zx 8 (.cmp .eql .i64 (.tmp 6) (.const (.int .i64 1))),zm 7 8]) (.cond (.tmp 7) (.ref 0) (.ref 26)))
def T119n28:XC:=.seq (.ops [zx 53 (.build [.string (ByteArray.mk (Array.mk [])),.bool false,.bool false,.bool false,.bool false] []),zn (.store 5 (.tmp 2) (.tmp 53)),zx 3 (.mov (.const (.bool false)))]) .ret
def T119n29:XC:=.seq (.seq (.ops [zm 6 0]) (.ref 27)) (.ref 28)
def T119:Nat→XC
 | 0=>T119n0
 | 1=>T119n1
 | 2=>T119n2
 | 3=>T119n3
 | 4=>T119n4
 | 5=>T119n5
 | 6=>T119n6
 | 7=>T119n7
 | 8=>T119n8
 | 9=>T119n9
 | 10=>T119n10
 | 11=>T119n11
 | 12=>T119n12
 | 13=>T119n13
 | 14=>T119n14
 | 15=>T119n15
 | 16=>T119n16
 | 17=>T119n17
 | 18=>T119n18
 | 19=>T119n19
 | 20=>T119n20
 | 21=>T119n21
 | 22=>T119n22
 | 23=>T119n23
 | 24=>T119n24
 | 25=>T119n25
 | 26=>T119n26
 | 27=>T119n27
 | 28=>T119n28
 | 29=>T119n29
 | _=>.skip
theorem t119n0:T119 0=T119n0:=rfl
theorem t119n1:T119 1=T119n1:=rfl
theorem t119n2:T119 2=T119n2:=rfl
theorem t119n3:T119 3=T119n3:=rfl
theorem t119n4:T119 4=T119n4:=rfl
theorem t119n5:T119 5=T119n5:=rfl
theorem t119n6:T119 6=T119n6:=rfl
theorem t119n7:T119 7=T119n7:=rfl
theorem t119n8:T119 8=T119n8:=rfl
theorem t119n9:T119 9=T119n9:=rfl
theorem t119n10:T119 10=T119n10:=rfl
theorem t119n11:T119 11=T119n11:=rfl
theorem t119n12:T119 12=T119n12:=rfl
theorem t119n13:T119 13=T119n13:=rfl
theorem t119n14:T119 14=T119n14:=rfl
theorem t119n15:T119 15=T119n15:=rfl
theorem t119n16:T119 16=T119n16:=rfl
theorem t119n17:T119 17=T119n17:=rfl
theorem t119n18:T119 18=T119n18:=rfl
theorem t119n19:T119 19=T119n19:=rfl
theorem t119n20:T119 20=T119n20:=rfl
theorem t119n21:T119 21=T119n21:=rfl
theorem t119n22:T119 22=T119n22:=rfl
theorem t119n23:T119 23=T119n23:=rfl
theorem t119n24:T119 24=T119n24:=rfl
theorem t119n25:T119 25=T119n25:=rfl
theorem t119n26:T119 26=T119n26:=rfl
theorem t119n27:T119 27=T119n27:=rfl
theorem t119n28:T119 28=T119n28:=rfl
theorem t119n29:T119 29=T119n29:=rfl
def X119:XC:=.seq (.ops [zx 2 (.alloc 172 [.string (ByteArray.mk (Array.mk [])),.bool false,.bool false,.bool false,.bool false]),zx 3 (.mov (.const (.bool false)))]) (.ref 29)
abbrev K119:List Nat:=[0,2,3,4,5,6,7,10,13,16,31,44,47,50]
theorem n119:Tryz.f119.ntmps=54:=by kernel_rfl
theorem r119:rvOf Tryz.prog Tryz.f119.results.toList=some [RV.cell 2 5 true,RV.tmp 3]:=by kernel_rfl
theorem x119:cmpF Tryz.prog Tryz.f119=some (expand T119 31 X119):=by kernel_rfl
def T24n0:XC:=.seq (.ops [zx 26 (.build [.int .i64 0,.int .i64 0,.int .i64 0,.int .u64 0,.int .u64 0] []),zn (.store 5 (.tmp 6) (.tmp 26))]) .ret
def T24n1:XC:=.seq (.ops [zm 52 9,.mk (some 53) none (.callv (.tmp 52) [.const (.int .i64 7)]),zn (.store 5 (.tmp 6) (.tmp 53))]) .ret
def T24n2:XC:=.seq (.ops [zm 56 7,zf 57 4 3,zl 58 57,zx 59 (.conv .u64 (.tmp 58)),.mk (some 60) none (.callv (.tmp 56) [.tmp 59]),zn (.store 5 (.tmp 6) (.tmp 60))]) .ret
def T24n3:XC:=.seq (.ops [zm 63 7,zm 64 12,.mk (some 65) none (.callv (.tmp 63) [.tmp 64]),zn (.store 5 (.tmp 6) (.tmp 65))]) .ret
def T24n4:XC:=.seq (.ops [zm 68 7,zm 69 12,zm 70 13,zx 71 (.arith .add .u64 (.tmp 69) (.tmp 70)),.mk (some 72) none (.callv (.tmp 68) [.tmp 71]),zn (.store 5 (.tmp 6) (.tmp 72))]) .ret
def T24n5:XC:=.seq (.ops [zm 75 7,zm 76 12,zm 77 13,zx 78 (.arith .sub .u64 (.tmp 76) (.tmp 77)),.mk (some 79) none (.callv (.tmp 75) [.tmp 78]),zn (.store 5 (.tmp 6) (.tmp 79))]) .ret
def T24n6:XC:=.seq (.ops [zm 82 7,zm 83 12,zm 84 13,zx 85 (.arith .mul .u64 (.tmp 83) (.tmp 84)),.mk (some 86) none (.callv (.tmp 82) [.tmp 85]),zn (.store 5 (.tmp 6) (.tmp 86))]) .ret
def T24n7:XC:=.seq (.ops [zm 89 7,zm 90 12,zm 91 13,zx 92 (.bits .and .u64 (.tmp 90) (.tmp 91)),.mk (some 93) none (.callv (.tmp 89) [.tmp 92]),zn (.store 5 (.tmp 6) (.tmp 93))]) .ret
def T24n8:XC:=.seq (.ops [zm 96 7,zm 97 12,zm 98 13,zx 99 (.bits .xor .u64 (.tmp 97) (.tmp 98)),.mk (some 100) none (.callv (.tmp 96) [.tmp 99]),zn (.store 5 (.tmp 6) (.tmp 100))]) .ret
def T24n9:XC:=.seq (.ops [zm 103 7,zm 104 12,zm 105 13,zx 106 (.div .rem .u64 (.tmp 105) (.const (.int .u64 64))),zx 107 (.shift .shl .u64 (.tmp 104) (.tmp 106)),.mk (some 108) none (.callv (.tmp 103) [.tmp 107]),zn (.store 5 (.tmp 6) (.tmp 108))]) .ret
def T24n10:XC:=.seq (.ops [zm 111 7,zm 112 12,zm 113 13,zx 114 (.div .rem .u64 (.tmp 113) (.const (.int .u64 64))),zx 115 (.shift .shr .u64 (.tmp 112) (.tmp 114)),.mk (some 116) none (.callv (.tmp 111) [.tmp 115]),zn (.store 5 (.tmp 6) (.tmp 116))]) .ret
def T24n11:XC:=.seq (.ops [zl 119 5,zp 120 119,zf 121 1 3,zl 122 121,zm 123 14,zx 124 (.build [.int .i64 0,.int .i64 0,.int .i64 0,.int .u64 0,.int .u64 0] [(0,1,.const (.int .i64 3)),(1,1,.tmp 120),(2,1,.tmp 122),(4,1,.tmp 123)]),zn (.store 5 (.tmp 6) (.tmp 124))]) .ret
def T24n12:XC:=.seq (.ops [zl 127 5,zp 128 127,zm 129 11,zm 130 14,zx 131 (.build [.int .i64 0,.int .i64 0,.int .i64 0,.int .u64 0,.int .u64 0] [(0,1,.const (.int .i64 4)),(1,1,.tmp 128),(3,1,.tmp 129),(4,1,.tmp 130)]),zn (.store 5 (.tmp 6) (.tmp 131))]) .ret
def T24n13:XC:=.seq (.ops [zm 134 8,.mk (some 135) none (.callv (.tmp 134) [.const (.bool true)]),zn (.store 5 (.tmp 6) (.tmp 135))]) .ret
def T24n14:XC:=.seq (.ops [zm 138 8,zm 139 11,zm 140 12,zx 141 (.cmp .eql .u64 (.tmp 139) (.tmp 140)),.mk (some 142) none (.callv (.tmp 138) [.tmp 141]),zn (.store 5 (.tmp 6) (.tmp 142))]) .ret
def T24n15:XC:=.seq (.ops [zm 145 8,zm 146 11,zm 147 12,zx 148 (.cmp .neq .u64 (.tmp 146) (.tmp 147)),.mk (some 149) none (.callv (.tmp 145) [.tmp 148]),zn (.store 5 (.tmp 6) (.tmp 149))]) .ret
def T24n16:XC:=.seq (.ops [zm 152 8,zm 153 11,zm 154 12,zx 155 (.cmp .lss .u64 (.tmp 153) (.tmp 154)),.mk (some 156) none (.callv (.tmp 152) [.tmp 155]),zn (.store 5 (.tmp 6) (.tmp 156))]) .ret
def T24n17:XC:=.seq (.ops [zm 159 9,.mk (some 160) none (.callv (.tmp 159) [.const (.int .i64 5)]),zn (.store 5 (.tmp 6) (.tmp 160))]) .ret
def T24n18:XC:=.seq (.ops [zx 158 (.cmp .eql .i64 (.tmp 49) (.const (.int .i64 17))),zm 157 158]) (.cond (.tmp 157) (.ref 17) .skip)
def T24n19:XC:=.seq (.ops [zx 151 (.cmp .eql .i64 (.tmp 49) (.const (.int .i64 16))),zm 150 151]) (.cond (.tmp 150) (.ref 16) (.ref 18))
def T24n20:XC:=.seq (.ops [zx 144 (.cmp .eql .i64 (.tmp 49) (.const (.int .i64 15))),zm 143 144]) (.cond (.tmp 143) (.ref 15) (.ref 19))
def T24n21:XC:=.seq (.ops [zx 137 (.cmp .eql .i64 (.tmp 49) (.const (.int .i64 14))),zm 136 137]) (.cond (.tmp 136) (.ref 14) (.ref 20))
def T24n22:XC:=.seq (.ops [zx 133 (.cmp .eql .i64 (.tmp 49) (.const (.int .i64 13))),zm 132 133]) (.cond (.tmp 132) (.ref 13) (.ref 21))
def T24n23:XC:=.seq (.ops [zx 126 (.cmp .eql .i64 (.tmp 49) (.const (.int .i64 12))),zm 125 126]) (.cond (.tmp 125) (.ref 12) (.ref 22))
def T24n24:XC:=.seq (.ops [zx 118 (.cmp .eql .i64 (.tmp 49) (.const (.int .i64 11))),zm 117 118]) (.cond (.tmp 117) (.ref 11) (.ref 23))
def T24n25:XC:=.seq (.ops [zx 110 (.cmp .eql .i64 (.tmp 49) (.const (.int .i64 10))),zm 109 110]) (.cond (.tmp 109) (.ref 10) (.ref 24))
def T24n26:XC:=.seq (.ops [zx 102 (.cmp .eql .i64 (.tmp 49) (.const (.int .i64 9))),zm 101 102]) (.cond (.tmp 101) (.ref 9) (.ref 25))
def T24n27:XC:=.seq (.ops [zx 95 (.cmp .eql .i64 (.tmp 49) (.const (.int .i64 8))),zm 94 95]) (.cond (.tmp 94) (.ref 8) (.ref 26))
def T24n28:XC:=.seq (.ops [zx 88 (.cmp .eql .i64 (.tmp 49) (.const (.int .i64 7))),zm 87 88]) (.cond (.tmp 87) (.ref 7) (.ref 27))
def T24n29:XC:=.seq (.ops [zx 81 (.cmp .eql .i64 (.tmp 49) (.const (.int .i64 6))),zm 80 81]) (.cond (.tmp 80) (.ref 6) (.ref 28))
def T24n30:XC:=.seq (.ops [zx 74 (.cmp .eql .i64 (.tmp 49) (.const (.int .i64 5))),zm 73 74]) (.cond (.tmp 73) (.ref 5) (.ref 29))
def T24n31:XC:=.seq (.ops [zx 67 (.cmp .eql .i64 (.tmp 49) (.const (.int .i64 4))),zm 66 67]) (.cond (.tmp 66) (.ref 4) (.ref 30))
def T24n32:XC:=.seq (.ops [zx 62 (.cmp .eql .i64 (.tmp 49) (.const (.int .i64 3))),zm 61 62]) (.cond (.tmp 61) (.ref 3) (.ref 31))
def T24n33:XC:=.seq (.ops [zx 55 (.cmp .eql .i64 (.tmp 49) (.const (.int .i64 2))),zm 54 55]) (.cond (.tmp 54) (.ref 2) (.ref 32))
def T24n34:XC:=.blk 0 (.seq (.ops [zx 51 (.cmp .eql .i64 (.tmp 49) (.const (.int .i64 1))),zm 50 51]) (.cond (.tmp 50) (.ref 1) (.ref 33)))
def T24n35:XC:=.seq (.ops [zm 161 9,.mk (some 162) none (.callv (.tmp 161) [.const (.int .i64 6)]),zn (.store 5 (.tmp 6) (.tmp 162))]) .ret
def T24n36:XC:=.seq (.seq (.ops [zf 48 0 3,zl 49 48]) (.ref 34)) (.ref 35)
def T24n37:XC:=.seq (.ops [zm 43 12,zf 44 4 3,zl 45 44,zx 46 (.conv .u64 (.tmp 45)),zx 47 (.arith .add .u64 (.tmp 43) (.tmp 46)),zm 14 47]) (.ref 36)
def T24n38:XC:=.seq (.ops [zm 31 10,zf 32 1 3,zm 35 10,zf 36 2 3,zm 39 10,zf 40 3 3,zl 33 32,zl 37 36,zl 41 40,.mk (some 34) none (.callv (.tmp 31) [.tmp 33]),.mk none none (.still 41 (.load [.int .i64] false (.tmp 40))),.mk none none (.still 37 (.load [.int .i64] false (.tmp 36))),.mk (some 38) none (.callv (.tmp 35) [.tmp 37]),.mk none none (.still 41 (.load [.int .i64] false (.tmp 40))),.mk (some 42) none (.callv (.tmp 39) [.tmp 41]),zm 11 34,zm 12 38,zm 13 42]) (.ref 37)
def T24n39:XC:=.seq (.ops [zx 30 (.mkfn (.func 52) [] [.tmp 4]),zm 10 30]) (.ref 38)
def T24n40:XC:=.seq (.ops [zx 29 (.mkfn (.func 51) [] [.tmp 5]),zm 9 29]) (.ref 39)
def T24n41:XC:=.seq (.ops [zx 28 (.mkfn (.func 50) [] [.tmp 5,.tmp 3]),zm 8 28]) (.ref 40)
def T24n42:XC:=.seq (.ops [zx 27 (.mkfn (.func 49) [] [.tmp 5,.tmp 3]),zm 7 27]) (.ref 41)
def T24n43:XC:=.seq (.seq (.ops [zi 15 3,zc 16 21 [.tmp 15],zx 17 (.not (.tmp 16)),zm 18 17,zg 19 18 false (.load [.int .i64] false (.tmp 5)),zg 20 18 false (.cmp .lss .i64 (.tmp 19) (.const (.int .i64 0))),zx 21 (.pick (.tmp 18) (.const (.bool true)) (.tmp 20)),zm 22 21,zg 23 22 false (.load [.int .i64] false (.tmp 5)),zg 24 22 false (.cmp .geq .i64 (.tmp 23) (.const (.int .i64 1024))),zx 25 (.pick (.tmp 22) (.const (.bool true)) (.tmp 24))]) (.cond (.tmp 25) (.ref 0) .skip)) (.ref 42)
def T24:Nat→XC
 | 0=>T24n0
 | 1=>T24n1
 | 2=>T24n2
 | 3=>T24n3
 | 4=>T24n4
 | 5=>T24n5
 | 6=>T24n6
 | 7=>T24n7
 | 8=>T24n8
 | 9=>T24n9
 | 10=>T24n10
 | 11=>T24n11
 | 12=>T24n12
 | 13=>T24n13
 | 14=>T24n14
 | 15=>T24n15
 | 16=>T24n16
 | 17=>T24n17
 | 18=>T24n18
 | 19=>T24n19
 | 20=>T24n20
 | 21=>T24n21
 | 22=>T24n22
 | 23=>T24n23
 | 24=>T24n24
 | 25=>T24n25
 | 26=>T24n26
 | 27=>T24n27
 | 28=>T24n28
 | 29=>T24n29
 | 30=>T24n30
 | 31=>T24n31
 | 32=>T24n32
 | 33=>T24n33
 | 34=>T24n34
 | 35=>T24n35
 | 36=>T24n36
 | 37=>T24n37
 | 38=>T24n38
 | 39=>T24n39
 | 40=>T24n40
 | 41=>T24n41
 | 42=>T24n42
 | 43=>T24n43
 | _=>.skip
theorem t24n0:T24 0=T24n0:=rfl
theorem t24n1:T24 1=T24n1:=rfl
theorem t24n2:T24 2=T24n2:=rfl
theorem t24n3:T24 3=T24n3:=rfl
theorem t24n4:T24 4=T24n4:=rfl
theorem t24n5:T24 5=T24n5:=rfl
theorem t24n6:T24 6=T24n6:=rfl
theorem t24n7:T24 7=T24n7:=rfl
theorem t24n8:T24 8=T24n8:=rfl
theorem t24n9:T24 9=T24n9:=rfl
theorem t24n10:T24 10=T24n10:=rfl
theorem t24n11:T24 11=T24n11:=rfl
theorem t24n12:T24 12=T24n12:=rfl
theorem t24n13:T24 13=T24n13:=rfl
theorem t24n14:T24 14=T24n14:=rfl
theorem t24n15:T24 15=T24n15:=rfl
theorem t24n16:T24 16=T24n16:=rfl
theorem t24n17:T24 17=T24n17:=rfl
theorem t24n18:T24 18=T24n18:=rfl
theorem t24n19:T24 19=T24n19:=rfl
theorem t24n20:T24 20=T24n20:=rfl
theorem t24n21:T24 21=T24n21:=rfl
theorem t24n22:T24 22=T24n22:=rfl
theorem t24n23:T24 23=T24n23:=rfl
theorem t24n24:T24 24=T24n24:=rfl
theorem t24n25:T24 25=T24n25:=rfl
theorem t24n26:T24 26=T24n26:=rfl
theorem t24n27:T24 27=T24n27:=rfl
theorem t24n28:T24 28=T24n28:=rfl
theorem t24n29:T24 29=T24n29:=rfl
theorem t24n30:T24 30=T24n30:=rfl
theorem t24n31:T24 31=T24n31:=rfl
theorem t24n32:T24 32=T24n32:=rfl
theorem t24n33:T24 33=T24n33:=rfl
theorem t24n34:T24 34=T24n34:=rfl
theorem t24n35:T24 35=T24n35:=rfl
theorem t24n36:T24 36=T24n36:=rfl
theorem t24n37:T24 37=T24n37:=rfl
theorem t24n38:T24 38=T24n38:=rfl
theorem t24n39:T24 39=T24n39:=rfl
theorem t24n40:T24 40=T24n40:=rfl
theorem t24n41:T24 41=T24n41:=rfl
theorem t24n42:T24 42=T24n42:=rfl
theorem t24n43:T24 43=T24n43:=rfl
def X24:XC:=.seq (.ops [zx 3 (.box 41 5 (.tmp 0)),zx 4 (.box 50 8 (.tmp 1)),zx 5 (.box 3 1 (.tmp 2)),zx 6 (.alloc 54 [.int .i64 0,.int .i64 0,.int .i64 0,.int .u64 0,.int .u64 0])]) (.ref 43)
abbrev K24:List Nat:=[0,1,2,3,4,5,6,7,8,9,10,11,12,13,14,25,49,50,54,61,66,73,80,87,94,101,109,117,125,132,136,143,150,157]
theorem n24:Tryz.f24.ntmps=163:=by kernel_rfl
theorem r24:rvOf Tryz.prog Tryz.f24.results.toList=some [RV.cell 6 5 true]:=by kernel_rfl
theorem x24:cmpF Tryz.prog Tryz.f24=some (expand T24 45 X24):=by kernel_rfl
def T49n0:XC:=.seq (.ops [zl 5 1,zp 6 5,zf 7 1 2,zl 8 7,zm 9 0,zx 10 (.build [.int .i64 0,.int .i64 0,.int .i64 0,.int .u64 0,.int .u64 0] [(0,1,.const (.int .i64 1)),(1,1,.tmp 6),(2,1,.tmp 8),(3,1,.tmp 9)]),zn (.store 5 (.tmp 4) (.tmp 10))]) .ret
def T49:Nat→XC
 | 0=>T49n0
 | _=>.skip
theorem t49n0:T49 0=T49n0:=rfl
def X49:XC:=.seq (.ops [zx 4 (.alloc 54 [.int .i64 0,.int .i64 0,.int .i64 0,.int .u64 0,.int .u64 0])]) (.ref 0)
abbrev K49:List Nat:=[0,1,2,4]
theorem n49:Tryz.f49.ntmps=11:=by kernel_rfl
theorem r49:rvOf Tryz.prog Tryz.f49.results.toList=some [RV.cell 4 5 true]:=by kernel_rfl
theorem x49:cmpF Tryz.prog Tryz.f49=some (expand T49 2 X49):=by kernel_rfl
def T50n0:XC:=.seq (.ops [zl 7 1,zp 8 7,zx 9 (.build [.int .i64 0,.int .i64 0,.int .i64 0,.int .u64 0,.int .u64 0] [(0,1,.const (.int .i64 2)),(1,1,.tmp 8)]),zn (.store 5 (.tmp 4) (.tmp 9))]) .ret
def T50n1:XC:=.seq (.ops [zx 18 (.build [.int .i64 0,.int .i64 0,.int .i64 0,.int .u64 0,.int .u64 0] []),zn (.store 5 (.tmp 4) (.tmp 18))]) .ret
def T50n2:XC:=.seq (.ops [zf 19 4 2,zl 20 19,zx 21 (.build [.int .i64 0,.int .i64 0,.int .i64 0,.int .u64 0,.int .u64 0] [(0,1,.const (.int .i64 2)),(1,1,.tmp 20)]),zn (.store 5 (.tmp 4) (.tmp 21))]) .ret
def T50n3:XC:=.seq (.seq (.ops [zf 10 4 2,zl 11 10,zx 12 (.cmp .lss .i64 (.tmp 11) (.const (.int .i64 0))),zm 13 12,zg 14 13 false (.fld 4 (.tmp 2)),zg 15 13 false (.load [.int .i64] false (.tmp 14)),zg 16 13 false (.cmp .gtr .i64 (.tmp 15) (.const (.int .i64 1024))),zx 17 (.pick (.tmp 13) (.const (.bool true)) (.tmp 16))]) (.cond (.tmp 17) (.ref 1) .skip)) (.ref 2)
def T50n4:XC:=.seq (.seq (.ops [zm 5 0,zx 6 (.not (.tmp 5))]) (.cond (.tmp 6) (.ref 0) .skip)) (.ref 3)
def T50:Nat→XC
 | 0=>T50n0
 | 1=>T50n1
 | 2=>T50n2
 | 3=>T50n3
 | 4=>T50n4
 | _=>.skip
theorem t50n0:T50 0=T50n0:=rfl
theorem t50n1:T50 1=T50n1:=rfl
theorem t50n2:T50 2=T50n2:=rfl
theorem t50n3:T50 3=T50n3:=rfl
theorem t50n4:T50 4=T50n4:=rfl
def X50:XC:=.seq (.ops [zx 4 (.alloc 54 [.int .i64 0,.int .i64 0,.int .i64 0,.int .u64 0,.int .u64 0])]) (.ref 4)
abbrev K50:List Nat:=[0,1,2,4,6,17]
theorem n50:Tryz.f50.ntmps=22:=by kernel_rfl
theorem r50:rvOf Tryz.prog Tryz.f50.results.toList=some [RV.cell 4 5 true]:=by kernel_rfl
theorem x50:cmpF Tryz.prog Tryz.f50=some (expand T50 6 X50):=by kernel_rfl
def T51n0:XC:=.seq (.ops [zm 4 0,zl 5 1,zp 6 5,zx 7 (.build [.int .i64 0,.int .i64 0,.int .i64 0,.int .u64 0,.int .u64 0] [(0,1,.tmp 4),(1,1,.tmp 6)]),zn (.store 5 (.tmp 3) (.tmp 7))]) .ret
def T51:Nat→XC
 | 0=>T51n0
 | _=>.skip
theorem t51n0:T51 0=T51n0:=rfl
def X51:XC:=.seq (.ops [zx 3 (.alloc 54 [.int .i64 0,.int .i64 0,.int .i64 0,.int .u64 0,.int .u64 0])]) (.ref 0)
abbrev K51:List Nat:=[0,1,3]
theorem n51:Tryz.f51.ntmps=8:=by kernel_rfl
theorem r51:rvOf Tryz.prog Tryz.f51.results.toList=some [RV.cell 3 5 true]:=by kernel_rfl
theorem x51:cmpF Tryz.prog Tryz.f51=some (expand T51 2 X51):=by kernel_rfl
def T52n0:XC:=.seq (.ops [zm 4 0,zx 5 (.bits .and .i64 (.tmp 4) (.const (.int .i64 7))),zx 6 (.idxA 8 1 (.tmp 1) (.tmp 5)),zx 7 (.load [.int .u64] false (.tmp 6)),zm 3 7]) .ret
def T52:Nat→XC
 | 0=>T52n0
 | _=>.skip
theorem t52n0:T52 0=T52n0:=rfl
def X52:XC:=.seq (.ops [zx 3 (.mov (.const (.int .u64 0)))]) (.ref 0)
abbrev K52:List Nat:=[0,1,3]
theorem n52:Tryz.f52.ntmps=8:=by kernel_rfl
theorem r52:resT Tryz.f52.results.toList=some [3]:=by kernel_rfl
theorem x52:cmpF Tryz.prog Tryz.f52=some (expand T52 2 X52):=by kernel_rfl
attribute [go_sem] t21n0 t21n1 t21n2 t21n3 t21n4 t21n5 t21n6 t21n7 T21n0 T21n1 T21n2 T21n3 T21n4 T21n5 T21n6 T21n7 X21
attribute [go_sem] t37n0 t37n1 t37n2 T37n0 T37n1 T37n2 X37
attribute [go_sem] t38n0 T38n0 X38
attribute [go_sem] t71n0 T71n0 X71
attribute [go_sem] t119n0 t119n1 t119n2 t119n3 t119n4 t119n5 t119n6 t119n7 t119n8 t119n9 t119n10 t119n11 t119n12 t119n13 t119n14 t119n15 t119n16 t119n17 t119n18 t119n19 t119n20 t119n21 t119n22 t119n23 t119n24 t119n25 t119n26 t119n27 t119n28 t119n29 T119n0 T119n1 T119n2 T119n3 T119n4 T119n5 T119n6 T119n7 T119n8 T119n9 T119n10 T119n11 T119n12 T119n13 T119n14 T119n15 T119n16 T119n17 T119n18 T119n19 T119n20 T119n21 T119n22 T119n23 T119n24 T119n25 T119n26 T119n27 T119n28 T119n29 X119
attribute [go_sem] t24n0 t24n1 t24n2 t24n3 t24n4 t24n5 t24n6 t24n7 t24n8 t24n9 t24n10 t24n11 t24n12 t24n13 t24n14 t24n15 t24n16 t24n17 t24n18 t24n19 t24n20 t24n21 t24n22 t24n23 t24n24 t24n25 t24n26 t24n27 t24n28 t24n29 t24n30 t24n31 t24n32 t24n33 t24n34 t24n35 t24n36 t24n37 t24n38 t24n39 t24n40 t24n41 t24n42 t24n43 T24n0 T24n1 T24n2 T24n3 T24n4 T24n5 T24n6 T24n7 T24n8 T24n9 T24n10 T24n11 T24n12 T24n13 T24n14 T24n15 T24n16 T24n17 T24n18 T24n19 T24n20 T24n21 T24n22 T24n23 T24n24 T24n25 T24n26 T24n27 T24n28 T24n29 T24n30 T24n31 T24n32 T24n33 T24n34 T24n35 T24n36 T24n37 T24n38 T24n39 T24n40 T24n41 T24n42 T24n43 X24
attribute [go_sem] t49n0 T49n0 X49
attribute [go_sem] t50n0 t50n1 t50n2 t50n3 t50n4 T50n0 T50n1 T50n2 T50n3 T50n4 X50
attribute [go_sem] t51n0 T51n0 X51
attribute [go_sem] t52n0 T52n0 X52
end Go.Proofs.YtlbiogokpadaoaaGreatDoor
