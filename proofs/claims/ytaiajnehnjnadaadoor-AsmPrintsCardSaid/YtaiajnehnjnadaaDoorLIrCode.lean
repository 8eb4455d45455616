/- Printed by program: the small code of functions, and that it is theirs. -/
import Derived.Test.YtaiajnehnjnadaaDoorSxStill
import Derived.Test.YtaiajnehnjnadaaDoorProg
import Derived.KernelRfl
set_option linter.unusedSimpArgs false
set_option linter.unusedVariables false
set_option linter.unnecessarySimpa false
namespace Go.Proofs.YtaiajnehnjnadaaDoor
open Go Go.Sx
set_option maxRecDepth 100000
def T21n0:XC:=.ops [zm 24 6,zx 25 (.neg .i64 (.tmp 24)),zm 6 25]
def T21n1:XC:=.ops [zm 33 4,zx 34 (.div .quo .i64 (.tmp 33) (.const (.int .i64 10))),zm 4 34]
def T21n2:XC:=.seq (.ops [zm 26 6,zx 27 (.arith .add .i64 (.const (.int .i64 48)) (.tmp 26)),zx 28 (.conv .u8 (.tmp 27)),zx 29 (.buildS 5 1 1 [.int .u8 0] [(0,.tmp 28)]),zx 30 (.b2s (.tmp 29)),zm 31 3,zx 32 (.cat (.tmp 30) (.tmp 31)),zm 3 32]) (.ref 1)
def T21n3:XC:=.seq (.seq (.ops [zm 22 6,zx 23 (.cmp .lss .i64 (.tmp 22) (.const (.int .i64 0)))]) (.cond (.tmp 23) (.ref 0) .skip)) (.ref 2)
def T21n4:XC:=.ops [zm 18 5,zp 19 18,zm 5 19]
def T21n5:XC:=.seq (.blk 1 (.seq (.ops [zm 20 4,zx 21 (.div .rem .i64 (.tmp 20) (.const (.int .i64 10))),zm 6 21]) (.ref 3))) (.ref 4)
def T21n6:XC:=.seq (.seq (.ops [zm 8 5,zx 9 (.cmp .lss .i64 (.tmp 8) (.const (.int .i64 20))),zm 10 9,zh 11 10 true 5,zg 12 10 true (.cmp .eql .i64 (.tmp 11) (.const (.int .i64 0))),zh 13 10 true 12,zh 14 13 false 4,zg 15 13 false (.cmp .neq .i64 (.tmp 14) (.const (.int .i64 0))),zg 16 10 true (.pick (.tmp 13) (.const (.bool true)) (.tmp 15)),zx 17 (.pick (.tmp 10) (.tmp 16) (.const (.bool false)))]) (.cond (.tmp 17) .skip (.exit 0))) (.ref 5)
def T21n7:XC:=.seq (.ops [zm 37 3,zx 38 (.cat (.const (.string (ByteArray.mk (Array.mk [UInt8.ofNat 45])))) (.tmp 37)),zm 2 38]) .ret
def T21n8:XC:=.seq (.ops [zm 39 3,zm 2 39]) .ret
def T21n9:XC:=.seq (.seq (.ops [zm 35 0,zx 36 (.cmp .lss .i64 (.tmp 35) (.const (.int .i64 0)))]) (.cond (.tmp 36) (.ref 7) .skip)) (.ref 8)
def T21n10:XC:=.seq (.seq (.ops [zx 5 (.mov (.const (.int .i64 0)))]) (.blk 0 (.loop (.ref 6)))) (.ref 9)
def T21n11:XC:=.seq (.ops [zm 7 0,zm 4 7]) (.ref 10)
def T21n12:XC:=.seq (.ops [zx 3 (.mov (.const (.string (ByteArray.mk (Array.mk [])))))]) (.ref 11)
def T21:Nat→XC
 | 0=>T21n0
 | 1=>T21n1
 | 2=>T21n2
 | 3=>T21n3
 | 4=>T21n4
 | 5=>T21n5
 | 6=>T21n6
 | 7=>T21n7
 | 8=>T21n8
 | 9=>T21n9
 | 10=>T21n10
 | 11=>T21n11
 | 12=>T21n12
 | _=>.skip
theorem t21n0:T21 0=T21n0:=rfl
theorem t21n1:T21 1=T21n1:=rfl
theorem t21n2:T21 2=T21n2:=rfl
theorem t21n3:T21 3=T21n3:=rfl
theorem t21n4:T21 4=T21n4:=rfl
theorem t21n5:T21 5=T21n5:=rfl
theorem t21n6:T21 6=T21n6:=rfl
theorem t21n7:T21 7=T21n7:=rfl
theorem t21n8:T21 8=T21n8:=rfl
theorem t21n9:T21 9=T21n9:=rfl
theorem t21n10:T21 10=T21n10:=rfl
theorem t21n11:T21 11=T21n11:=rfl
theorem t21n12:T21 12=T21n12:=rfl
def X21:XC:=.seq (.ops [zx 2 (.mov (.const (.string (ByteArray.mk (Array.mk [])))))]) (.ref 12)
abbrev K21:List Nat:=[0,2,3,4,5,6,17,23,36]
theorem n21:Tryd.f21.ntmps=40:=by kernel_rfl
theorem r21:resT Tryd.f21.results.toList=some [2]:=by kernel_rfl
theorem x21:cmpF Tryd.prog Tryd.f21=some (expand T21 14 X21):=by kernel_rfl
def T22n0:XC:=.seq (.ops [zf 59 0 1,zf 64 1 1,zf 69 2 1,zf 74 3 1,zf 79 4 1,zl 60 59,zl 65 64,zl 70 69,zl 75 74,zl 80 79,zc 61 21 [.tmp 60],.mk none none (.still 80 (.load [.int .i64] false (.tmp 79))),.mk none none (.still 75 (.load [.int .i64] false (.tmp 74))),.mk none none (.still 70 (.load [.int .i64] false (.tmp 69))),.mk none none (.still 65 (.load [.int .i64] false (.tmp 64))),zx 62 (.cat (.const (.string (ByteArray.mk (Array.mk [UInt8.ofNat 114,UInt8.ofNat 97,UInt8.ofNat 119,UInt8.ofNat 32])))) (.tmp 61)),zx 63 (.cat (.tmp 62) (.const (.string (ByteArray.mk (Array.mk [UInt8.ofNat 32]))))),zc 66 21 [.tmp 65],.mk none none (.still 80 (.load [.int .i64] false (.tmp 79))),.mk none none (.still 75 (.load [.int .i64] false (.tmp 74))),.mk none none (.still 70 (.load [.int .i64] false (.tmp 69))),zx 67 (.cat (.tmp 63) (.tmp 66)),zx 68 (.cat (.tmp 67) (.const (.string (ByteArray.mk (Array.mk [UInt8.ofNat 32]))))),zc 71 21 [.tmp 70],.mk none none (.still 80 (.load [.int .i64] false (.tmp 79))),.mk none none (.still 75 (.load [.int .i64] false (.tmp 74))),zx 72 (.cat (.tmp 68) (.tmp 71)),zx 73 (.cat (.tmp 72) (.const (.string (ByteArray.mk (Array.mk [UInt8.ofNat 32]))))),zc 76 21 [.tmp 75],.mk none none (.still 80 (.load [.int .i64] false (.tmp 79))),zx 77 (.cat (.tmp 73) (.tmp 76)),zx 78 (.cat (.tmp 77) (.const (.string (ByteArray.mk (Array.mk [UInt8.ofNat 32]))))),zc 81 21 [.tmp 80],zx 82 (.cat (.tmp 78) (.tmp 81)),zm 2 82]) .ret
def T22n1:XC:=.ops [zm 87 5,zx 88 (.cat (.tmp 87) (.const (.string (ByteArray.mk (Array.mk [UInt8.ofNat 32]))))),zf 89 1 1,zl 90 89,zc 91 21 [.tmp 90],zx 92 (.cat (.tmp 88) (.tmp 91)),zm 5 92]
def T22n2:XC:=.ops [zm 95 5,zx 96 (.cat (.tmp 95) (.const (.string (ByteArray.mk (Array.mk [UInt8.ofNat 32]))))),zf 97 2 1,zl 98 97,zc 99 21 [.tmp 98],zx 100 (.cat (.tmp 96) (.tmp 99)),zm 5 100]
def T22n3:XC:=.ops [zm 103 5,zx 104 (.cat (.tmp 103) (.const (.string (ByteArray.mk (Array.mk [UInt8.ofNat 32]))))),zf 105 3 1,zl 106 105,zc 107 21 [.tmp 106],zx 108 (.cat (.tmp 104) (.tmp 107)),zm 5 108]
def T22n4:XC:=.ops [zm 111 5,zx 112 (.cat (.tmp 111) (.const (.string (ByteArray.mk (Array.mk [UInt8.ofNat 32]))))),zf 113 4 1,zl 114 113,zc 115 21 [.tmp 114],zx 116 (.cat (.tmp 112) (.tmp 115)),zm 5 116]
def T22n5:XC:=.seq (.ops [zm 117 5,zm 2 117]) .ret
def T22n6:XC:=.seq (.seq (.ops [zf 109 4 3,zx 110 (.load [.bool] false (.tmp 109))]) (.cond (.tmp 110) (.ref 4) .skip)) (.ref 5)
def T22n7:XC:=.seq (.seq (.ops [zf 101 3 3,zx 102 (.load [.bool] false (.tmp 101))]) (.cond (.tmp 102) (.ref 3) .skip)) (.ref 6)
def T22n8:XC:=.seq (.seq (.ops [zf 93 2 3,zx 94 (.load [.bool] false (.tmp 93))]) (.cond (.tmp 94) (.ref 2) .skip)) (.ref 7)
def T22n9:XC:=.seq (.seq (.ops [zf 85 1 3,zx 86 (.load [.bool] false (.tmp 85))]) (.cond (.tmp 86) (.ref 1) .skip)) (.ref 8)
def T22n10:XC:=.seq (.ops [zf 83 0 3,zx 84 (.load [.str] false (.tmp 83)),zm 5 84]) (.ref 9)
def T22n11:XC:=.seq (.seq (.ops [zm 12 4,zx 13 (.not (.tmp 12)),zm 14 13,zg 15 14 false (.load [.int .i64,.int .i64,.int .i64,.int .i64,.int .i64] true (.tmp 1)),.mk (some 16) (some (14,false)) (.call 34 [.tmp 15]),zg 17 14 false (.not (.tmp 16)),zx 18 (.pick (.tmp 14) (.const (.bool true)) (.tmp 17)),zm 19 18,zg 20 19 false (.fld 1 (.tmp 3)),zg 21 19 false (.load [.bool] false (.tmp 20)),zg 22 19 false (.not (.tmp 21)),zh 23 19 false 22,zg 24 23 true (.fld 1 (.tmp 1)),zg 25 23 true (.load [.int .i64] false (.tmp 24)),zg 26 23 true (.cmp .neq .i64 (.tmp 25) (.const (.int .i64 0))),zg 27 19 false (.pick (.tmp 23) (.tmp 26) (.const (.bool false))),zx 28 (.pick (.tmp 19) (.const (.bool true)) (.tmp 27)),zm 29 28,zg 30 29 false (.fld 2 (.tmp 3)),zg 31 29 false (.load [.bool] false (.tmp 30)),zg 32 29 false (.not (.tmp 31)),zh 33 29 false 32,zg 34 33 true (.fld 2 (.tmp 1)),zg 35 33 true (.load [.int .i64] false (.tmp 34)),zg 36 33 true (.cmp .neq .i64 (.tmp 35) (.const (.int .i64 0))),zg 37 29 false (.pick (.tmp 33) (.tmp 36) (.const (.bool false))),zx 38 (.pick (.tmp 29) (.const (.bool true)) (.tmp 37)),zm 39 38,zg 40 39 false (.fld 3 (.tmp 3)),zg 41 39 false (.load [.bool] false (.tmp 40)),zg 42 39 false (.not (.tmp 41)),zh 43 39 false 42,zg 44 43 true (.fld 3 (.tmp 1)),zg 45 43 true (.load [.int .i64] false (.tmp 44)),zg 46 43 true (.cmp .neq .i64 (.tmp 45) (.const (.int .i64 0))),zg 47 39 false (.pick (.tmp 43) (.tmp 46) (.const (.bool false))),zx 48 (.pick (.tmp 39) (.const (.bool true)) (.tmp 47)),zm 49 48,zg 50 49 false (.fld 4 (.tmp 3)),zg 51 49 false (.load [.bool] false (.tmp 50)),zg 52 49 false (.not (.tmp 51)),zh 53 49 false 52,zg 54 53 true (.fld 4 (.tmp 1)),zg 55 53 true (.load [.int .i64] false (.tmp 54)),zg 56 53 true (.cmp .neq .i64 (.tmp 55) (.const (.int .i64 0))),zg 57 49 false (.pick (.tmp 53) (.tmp 56) (.const (.bool false))),zx 58 (.pick (.tmp 49) (.const (.bool true)) (.tmp 57))]) (.cond (.tmp 58) (.ref 0) .skip)) (.ref 10)
def T22n12:XC:=.seq (.ops [zf 7 0 1,zl 8 7,zc 9 35 [.tmp 8],zm 6 9,zy 10 6 0,zy 11 6 1,zx 3 (.alloc 76 [.string (ByteArray.mk (Array.mk [])),.bool false,.bool false,.bool false,.bool false]),zn (.store 5 (.tmp 3) (.tmp 10)),zm 4 11]) (.ref 11)
def T22:Nat→XC
 | 0=>T22n0
 | 1=>T22n1
 | 2=>T22n2
 | 3=>T22n3
 | 4=>T22n4
 | 5=>T22n5
 | 6=>T22n6
 | 7=>T22n7
 | 8=>T22n8
 | 9=>T22n9
 | 10=>T22n10
 | 11=>T22n11
 | 12=>T22n12
 | _=>.skip
theorem t22n0:T22 0=T22n0:=rfl
theorem t22n1:T22 1=T22n1:=rfl
theorem t22n2:T22 2=T22n2:=rfl
theorem t22n3:T22 3=T22n3:=rfl
theorem t22n4:T22 4=T22n4:=rfl
theorem t22n5:T22 5=T22n5:=rfl
theorem t22n6:T22 6=T22n6:=rfl
theorem t22n7:T22 7=T22n7:=rfl
theorem t22n8:T22 8=T22n8:=rfl
theorem t22n9:T22 9=T22n9:=rfl
theorem t22n10:T22 10=T22n10:=rfl
theorem t22n11:T22 11=T22n11:=rfl
theorem t22n12:T22 12=T22n12:=rfl
def X22:XC:=.seq (.ops [zx 1 (.box 43 5 (.tmp 0)),zx 2 (.mov (.const (.string (ByteArray.mk (Array.mk [])))))]) (.ref 12)
abbrev K22:List Nat:=[0,1,2,3,4,5,58,86,94,102,110]
theorem n22:Tryd.f22.ntmps=118:=by kernel_rfl
theorem r22:resT Tryd.f22.results.toList=some [2]:=by kernel_rfl
theorem x22:cmpF Tryd.prog Tryd.f22=some (expand T22 14 X22):=by kernel_rfl
def T34n0:XC:=.seq (.ops [zm 11 4,zm 12 11,zg 13 12 true (.fld 1 (.tmp 3)),zg 14 12 true (.load [.bool] false (.tmp 13)),zg 15 12 true (.not (.tmp 14)),zh 16 12 true 15,zg 17 16 false (.fld 1 (.tmp 1)),zg 18 16 false (.load [.int .i64] false (.tmp 17)),.mk (some 19) (some (16,false)) (.call 46 [.tmp 18]),zg 20 12 true (.pick (.tmp 16) (.const (.bool true)) (.tmp 19)),zx 21 (.pick (.tmp 12) (.tmp 20) (.const (.bool false))),zm 22 21,zg 23 22 true (.fld 2 (.tmp 3)),zg 24 22 true (.load [.bool] false (.tmp 23)),zg 25 22 true (.not (.tmp 24)),zh 26 22 true 25,zg 27 26 false (.fld 2 (.tmp 1)),zg 28 26 false (.load [.int .i64] false (.tmp 27)),.mk (some 29) (some (26,false)) (.call 46 [.tmp 28]),zg 30 22 true (.pick (.tmp 26) (.const (.bool true)) (.tmp 29)),zx 31 (.pick (.tmp 22) (.tmp 30) (.const (.bool false))),zm 32 31,zg 33 32 true (.fld 3 (.tmp 3)),zg 34 32 true (.load [.bool] false (.tmp 33)),zg 35 32 true (.not (.tmp 34)),zh 36 32 true 35,zg 37 36 false (.fld 3 (.tmp 1)),zg 38 36 false (.load [.int .i64] false (.tmp 37)),.mk (some 39) (some (36,false)) (.call 46 [.tmp 38]),zg 40 32 true (.pick (.tmp 36) (.const (.bool true)) (.tmp 39)),zx 41 (.pick (.tmp 32) (.tmp 40) (.const (.bool false))),zm 2 41]) .ret
def T34n1:XC:=.seq (.ops [zf 6 0 1,zl 7 6,zc 8 35 [.tmp 7],zm 5 8,zy 9 5 0,zy 10 5 1,zx 3 (.alloc 76 [.string (ByteArray.mk (Array.mk [])),.bool false,.bool false,.bool false,.bool false]),zn (.store 5 (.tmp 3) (.tmp 9)),zm 4 10]) (.ref 0)
def T34:Nat→XC
 | 0=>T34n0
 | 1=>T34n1
 | _=>.skip
theorem t34n0:T34 0=T34n0:=rfl
theorem t34n1:T34 1=T34n1:=rfl
def X34:XC:=.seq (.ops [zx 1 (.box 43 5 (.tmp 0)),zx 2 (.mov (.const (.bool false)))]) (.ref 1)
abbrev K34:List Nat:=[0,1,2,3,4]
theorem n34:Tryd.f34.ntmps=42:=by kernel_rfl
theorem r34:resT Tryd.f34.results.toList=some [2]:=by kernel_rfl
theorem x34:cmpF Tryd.prog Tryd.f34=some (expand T34 3 X34):=by kernel_rfl
def T35n0:XC:=.seq (.ops [zx 9 (.build [.string (ByteArray.mk (Array.mk [])),.bool false,.bool false,.bool false,.bool false] [(0,1,.const (.string (ByteArray.mk (Array.mk [UInt8.ofNat 104,UInt8.ofNat 97,UInt8.ofNat 108,UInt8.ofNat 116]))))]),zn (.store 5 (.tmp 2) (.tmp 9)),zx 3 (.mov (.const (.bool true)))]) .ret
def T35n1:XC:=.seq (.ops [zx 12 (.build [.string (ByteArray.mk (Array.mk [])),.bool false,.bool false,.bool false,.bool false] [(0,1,.const (.string (ByteArray.mk (Array.mk [UInt8.ofNat 115,UInt8.ofNat 101,UInt8.ofNat 116])))),(1,1,.const (.bool true)),(4,1,.const (.bool true))]),zn (.store 5 (.tmp 2) (.tmp 12)),zx 3 (.mov (.const (.bool true)))]) .ret
def T35n2:XC:=.seq (.ops [zx 15 (.build [.string (ByteArray.mk (Array.mk [])),.bool false,.bool false,.bool false,.bool false] [(0,1,.const (.string (ByteArray.mk (Array.mk [UInt8.ofNat 109,UInt8.ofNat 111,UInt8.ofNat 118])))),(1,1,.const (.bool true)),(2,1,.const (.bool true))]),zn (.store 5 (.tmp 2) (.tmp 15)),zx 3 (.mov (.const (.bool true)))]) .ret
def T35n3:XC:=.cond (.tmp 16) .skip (.ops [zx 23 (.cmp .eql .i64 (.tmp 6) (.const (.int .i64 10))),zm 16 23])
def T35n4:XC:=.seq (.ops [zx 22 (.cmp .eql .i64 (.tmp 6) (.const (.int .i64 9))),zm 16 22]) (.ref 3)
def T35n5:XC:=.seq (.ops [zx 21 (.cmp .eql .i64 (.tmp 6) (.const (.int .i64 8))),zm 16 21]) (.cond (.tmp 16) .skip (.ref 4))
def T35n6:XC:=.seq (.ops [zx 20 (.cmp .eql .i64 (.tmp 6) (.const (.int .i64 7))),zm 16 20]) (.cond (.tmp 16) .skip (.ref 5))
def T35n7:XC:=.seq (.ops [zx 19 (.cmp .eql .i64 (.tmp 6) (.const (.int .i64 6))),zm 16 19]) (.cond (.tmp 16) .skip (.ref 6))
def T35n8:XC:=.seq (.ops [zx 18 (.cmp .eql .i64 (.tmp 6) (.const (.int .i64 5))),zm 16 18]) (.cond (.tmp 16) .skip (.ref 7))
def T35n9:XC:=.seq (.ops [zm 25 4,zm 26 0,zx 27 (.arith .sub .i64 (.tmp 26) (.const (.int .i64 4))),zd 28 1 25 27,zx 29 (.load [.str] false (.tmp 28)),zx 30 (.build [.string (ByteArray.mk (Array.mk [])),.bool false,.bool false,.bool false,.bool false] [(0,1,.tmp 29),(1,1,.const (.bool true)),(2,1,.const (.bool true)),(3,1,.const (.bool true))]),zn (.store 5 (.tmp 2) (.tmp 30)),zx 3 (.mov (.const (.bool true)))]) .ret
def T35n10:XC:=.seq (.ops [zx 24 (.buildS 9 7 1 [.string (ByteArray.mk (Array.mk []))] [(0,.const (.string (ByteArray.mk (Array.mk [UInt8.ofNat 97,UInt8.ofNat 100,UInt8.ofNat 100])))),(1,.const (.string (ByteArray.mk (Array.mk [UInt8.ofNat 115,UInt8.ofNat 117,UInt8.ofNat 98])))),(2,.const (.string (ByteArray.mk (Array.mk [UInt8.ofNat 109,UInt8.ofNat 117,UInt8.ofNat 108])))),(3,.const (.string (ByteArray.mk (Array.mk [UInt8.ofNat 97,UInt8.ofNat 110,UInt8.ofNat 100])))),(4,.const (.string (ByteArray.mk (Array.mk [UInt8.ofNat 120,UInt8.ofNat 111,UInt8.ofNat 114])))),(5,.const (.string (ByteArray.mk (Array.mk [UInt8.ofNat 115,UInt8.ofNat 104,UInt8.ofNat 108])))),(6,.const (.string (ByteArray.mk (Array.mk [UInt8.ofNat 115,UInt8.ofNat 104,UInt8.ofNat 114]))))]),zm 4 24]) (.ref 9)
def T35n11:XC:=.cond (.tmp 31) .skip (.ops [zx 36 (.cmp .eql .i64 (.tmp 6) (.const (.int .i64 16))),zm 31 36])
def T35n12:XC:=.seq (.ops [zx 35 (.cmp .eql .i64 (.tmp 6) (.const (.int .i64 15))),zm 31 35]) (.ref 11)
def T35n13:XC:=.seq (.ops [zx 34 (.cmp .eql .i64 (.tmp 6) (.const (.int .i64 14))),zm 31 34]) (.cond (.tmp 31) .skip (.ref 12))
def T35n14:XC:=.seq (.ops [zx 33 (.cmp .eql .i64 (.tmp 6) (.const (.int .i64 12))),zm 31 33]) (.cond (.tmp 31) .skip (.ref 13))
def T35n15:XC:=.seq (.ops [zm 38 5,zm 39 0,zx 40 (.arith .sub .i64 (.tmp 39) (.const (.int .i64 11))),zd 41 1 38 40,zx 42 (.load [.str] false (.tmp 41)),zx 43 (.build [.string (ByteArray.mk (Array.mk [])),.bool false,.bool false,.bool false,.bool false] [(0,1,.tmp 42),(1,1,.const (.bool true)),(2,1,.const (.bool true)),(4,1,.const (.bool true))]),zn (.store 5 (.tmp 2) (.tmp 43)),zx 3 (.mov (.const (.bool true)))]) .ret
def T35n16:XC:=.seq (.ops [zx 37 (.buildS 9 6 1 [.string (ByteArray.mk (Array.mk []))] [(0,.const (.string (ByteArray.mk (Array.mk [UInt8.ofNat 108,UInt8.ofNat 111,UInt8.ofNat 97,UInt8.ofNat 100])))),(1,.const (.string (ByteArray.mk (Array.mk [UInt8.ofNat 115,UInt8.ofNat 116,UInt8.ofNat 111,UInt8.ofNat 114,UInt8.ofNat 101])))),(2,.const (.string (ByteArray.mk (Array.mk [])))),(3,.const (.string (ByteArray.mk (Array.mk [UInt8.ofNat 101,UInt8.ofNat 113])))),(4,.const (.string (ByteArray.mk (Array.mk [UInt8.ofNat 110,UInt8.ofNat 101])))),(5,.const (.string (ByteArray.mk (Array.mk [UInt8.ofNat 108,UInt8.ofNat 116]))))]),zm 5 37]) (.ref 15)
def T35n17:XC:=.seq (.ops [zx 46 (.build [.string (ByteArray.mk (Array.mk [])),.bool false,.bool false,.bool false,.bool false] [(0,1,.const (.string (ByteArray.mk (Array.mk [UInt8.ofNat 106,UInt8.ofNat 117,UInt8.ofNat 109,UInt8.ofNat 112])))),(4,1,.const (.bool true))]),zn (.store 5 (.tmp 2) (.tmp 46)),zx 3 (.mov (.const (.bool true)))]) .ret
def T35n18:XC:=.seq (.ops [zx 49 (.build [.string (ByteArray.mk (Array.mk [])),.bool false,.bool false,.bool false,.bool false] [(0,1,.const (.string (ByteArray.mk (Array.mk [UInt8.ofNat 98,UInt8.ofNat 101,UInt8.ofNat 103,UInt8.ofNat 105,UInt8.ofNat 110]))))]),zn (.store 5 (.tmp 2) (.tmp 49)),zx 3 (.mov (.const (.bool true)))]) .ret
def T35n19:XC:=.seq (.ops [zx 52 (.build [.string (ByteArray.mk (Array.mk [])),.bool false,.bool false,.bool false,.bool false] [(0,1,.const (.string (ByteArray.mk (Array.mk [UInt8.ofNat 101,UInt8.ofNat 110,UInt8.ofNat 100]))))]),zn (.store 5 (.tmp 2) (.tmp 52)),zx 3 (.mov (.const (.bool true)))]) .ret
def T35n20:XC:=.seq (.ops [zx 51 (.cmp .eql .i64 (.tmp 6) (.const (.int .i64 18))),zm 50 51]) (.cond (.tmp 50) (.ref 19) .skip)
def T35n21:XC:=.seq (.ops [zx 48 (.cmp .eql .i64 (.tmp 6) (.const (.int .i64 17))),zm 47 48]) (.cond (.tmp 47) (.ref 18) (.ref 20))
def T35n22:XC:=.seq (.ops [zx 45 (.cmp .eql .i64 (.tmp 6) (.const (.int .i64 13))),zm 44 45]) (.cond (.tmp 44) (.ref 17) (.ref 21))
def T35n23:XC:=.seq (.seq (.ops [zx 32 (.cmp .eql .i64 (.tmp 6) (.const (.int .i64 11))),zm 31 32]) (.cond (.tmp 31) .skip (.ref 14))) (.cond (.tmp 31) (.ref 16) (.ref 22))
def T35n24:XC:=.seq (.seq (.ops [zx 17 (.cmp .eql .i64 (.tmp 6) (.const (.int .i64 4))),zm 16 17]) (.cond (.tmp 16) .skip (.ref 8))) (.cond (.tmp 16) (.ref 10) (.ref 23))
def T35n25:XC:=.seq (.ops [zx 14 (.cmp .eql .i64 (.tmp 6) (.const (.int .i64 3))),zm 13 14]) (.cond (.tmp 13) (.ref 2) (.ref 24))
def T35n26:XC:=.seq (.ops [zx 11 (.cmp .eql .i64 (.tmp 6) (.const (.int .i64 2))),zm 10 11]) (.cond (.tmp 10) (.ref 1) (.ref 25))
def T35n27:XC:=.blk 0 (.seq (.ops [zx 8 (.cmp .eql .i64 (.tmp 6) (.const (.int .i64 1))),zm 7 8]) (.cond (.tmp 7) (.ref 0) (.ref 26)))
def T35n28:XC:=.seq (.ops [zx 53 (.build [.string (ByteArray.mk (Array.mk [])),.bool false,.bool false,.bool false,.bool false] []),zn (.store 5 (.tmp 2) (.tmp 53)),zx 3 (.mov (.const (.bool false)))]) .ret
def T35n29:XC:=.seq (.seq (.ops [zm 6 0]) (.ref 27)) (.ref 28)
def T35:Nat→XC
 | 0=>T35n0
 | 1=>T35n1
 | 2=>T35n2
 | 3=>T35n3
 | 4=>T35n4
 | 5=>T35n5
 | 6=>T35n6
 | 7=>T35n7
 | 8=>T35n8
 | 9=>T35n9
 | 10=>T35n10
 | 11=>T35n11
 | 12=>T35n12
 | 13=>T35n13
 | 14=>T35n14
 | 15=>T35n15
 | 16=>T35n16
 | 17=>T35n17
 | 18=>T35n18
 | 19=>T35n19
 | 20=>T35n20
 | 21=>T35n21
 | 22=>T35n22
 | 23=>T35n23
 | 24=>T35n24
 | 25=>T35n25
 | 26=>T35n26
 | 27=>T35n27
 | 28=>T35n28
 | 29=>T35n29
 | _=>.skip
theorem t35n0:T35 0=T35n0:=rfl
theorem t35n1:T35 1=T35n1:=rfl
theorem t35n2:T35 2=T35n2:=rfl
theorem t35n3:T35 3=T35n3:=rfl
theorem t35n4:T35 4=T35n4:=rfl
theorem t35n5:T35 5=T35n5:=rfl
theorem t35n6:T35 6=T35n6:=rfl
theorem t35n7:T35 7=T35n7:=rfl
theorem t35n8:T35 8=T35n8:=rfl
theorem t35n9:T35 9=T35n9:=rfl
theorem t35n10:T35 10=T35n10:=rfl
theorem t35n11:T35 11=T35n11:=rfl
theorem t35n12:T35 12=T35n12:=rfl
theorem t35n13:T35 13=T35n13:=rfl
theorem t35n14:T35 14=T35n14:=rfl
theorem t35n15:T35 15=T35n15:=rfl
theorem t35n16:T35 16=T35n16:=rfl
theorem t35n17:T35 17=T35n17:=rfl
theorem t35n18:T35 18=T35n18:=rfl
theorem t35n19:T35 19=T35n19:=rfl
theorem t35n20:T35 20=T35n20:=rfl
theorem t35n21:T35 21=T35n21:=rfl
theorem t35n22:T35 22=T35n22:=rfl
theorem t35n23:T35 23=T35n23:=rfl
theorem t35n24:T35 24=T35n24:=rfl
theorem t35n25:T35 25=T35n25:=rfl
theorem t35n26:T35 26=T35n26:=rfl
theorem t35n27:T35 27=T35n27:=rfl
theorem t35n28:T35 28=T35n28:=rfl
theorem t35n29:T35 29=T35n29:=rfl
def X35:XC:=.seq (.ops [zx 2 (.alloc 76 [.string (ByteArray.mk (Array.mk [])),.bool false,.bool false,.bool false,.bool false]),zx 3 (.mov (.const (.bool false)))]) (.ref 29)
abbrev K35:List Nat:=[0,2,3,4,5,6,7,10,13,16,31,44,47,50]
theorem n35:Tryd.f35.ntmps=54:=by kernel_rfl
theorem r35:rvOf Tryd.prog Tryd.f35.results.toList=some [RV.cell 2 5 true,RV.tmp 3]:=by kernel_rfl
theorem x35:cmpF Tryd.prog Tryd.f35=some (expand T35 31 X35):=by kernel_rfl
attribute [go_sem] t21n0 t21n1 t21n2 t21n3 t21n4 t21n5 t21n6 t21n7 t21n8 t21n9 t21n10 t21n11 t21n12 T21n0 T21n1 T21n2 T21n3 T21n4 T21n5 T21n6 T21n7 T21n8 T21n9 T21n10 T21n11 T21n12 X21
attribute [go_sem] t22n0 t22n1 t22n2 t22n3 t22n4 t22n5 t22n6 t22n7 t22n8 t22n9 t22n10 t22n11 t22n12 T22n0 T22n1 T22n2 T22n3 T22n4 T22n5 T22n6 T22n7 T22n8 T22n9 T22n10 T22n11 T22n12 X22
attribute [go_sem] t34n0 t34n1 T34n0 T34n1 X34
attribute [go_sem] t35n0 t35n1 t35n2 t35n3 t35n4 t35n5 t35n6 t35n7 t35n8 t35n9 t35n10 t35n11 t35n12 t35n13 t35n14 t35n15 t35n16 t35n17 t35n18 t35n19 t35n20 t35n21 t35n22 t35n23 t35n24 t35n25 t35n26 t35n27 t35n28 t35n29 T35n0 T35n1 T35n2 T35n3 T35n4 T35n5 T35n6 T35n7 T35n8 T35n9 T35n10 T35n11 T35n12 T35n13 T35n14 T35n15 T35n16 T35n17 T35n18 T35n19 T35n20 T35n21 T35n22 T35n23 T35n24 T35n25 T35n26 T35n27 T35n28 T35n29 X35
end Go.Proofs.YtaiajnehnjnadaaDoor
