/- Printed by program: the small code of functions, and that it is theirs. -/
import Derived.Test.YtlbiogokpadaoaaGreatDoorSxStill
import Derived.Test.YtlbiogokpadaoaaGreatDoorProg
import Derived.KernelRfl
set_option linter.unusedSimpArgs false
set_option linter.unusedVariables false
set_option linter.unnecessarySimpa false
namespace Go.Proofs.YtlbiogokpadaoaaGreatDoor
open Go Go.Sx
set_option maxRecDepth 100000
def T66n0:XC:=.seq (.ops [zm 27 8,zx 2 (.mov (.const (.slice none 0 0))),zm 3 27,zx 4 (.mov (.const (.int .i64 150)))]) .ret
def T66n1:XC:=.seq (.ops [zm 25 8,zx 26 (.cmp .gtr .i64 (.tmp 25) (.const (.int .i64 0)))]) (.cond (.tmp 26) (.ref 0) .skip)
def T66n2:XC:=.ops [zm 35 9,zf 36 0 11,zx 37 (.load [.str] false (.tmp 36)),zf 38 1 11,zl 39 38,zn (.mupd .str (.tmp 35) (.tmp 37) (.tmp 39))]
def T66n3:XC:=.seq (.blk 1 (.seq (.ops [zd 33 2 29 31,zx 34 (.load [.str,.int .i64] true (.tmp 33)),zx 11 (.alloc 148 [.string (ByteArray.mk (Array.mk [])),.int .i64 0]),zn (.store 2 (.tmp 11) (.tmp 34))]) (.ref 2))) (.ops [zp 40 31,zm 31 40])
def T66n4:XC:=.seq (.cond (.tmp 32) .skip (.exit 0)) (.ref 3)
def T66n5:XC:=.seq (.ops [zk 32 .lss 31 30]) (.ref 4)
def T66n6:XC:=.ops [zm 50 9,zf 51 6 14,zx 52 (.load [.str] false (.tmp 51)),zx 53 (.lkup .str (.int .i64 0) false (.tmp 50) (.tmp 52)),zf 54 1 14,zf 55 4 54,zn (.store 1 (.tmp 55) (.tmp 53))]
def T66n7:XC:=.ops [zm 56 12,zf 57 1 14,zi 58 57,zx 59 (.buildS 41 1 5 [.int .i64 0,.int .i64 0,.int .i64 0,.int .i64 0,.int .i64 0] [(0,.tmp 58)]),zx 60 (.app 41 5 40 (.tmp 56) (.tmp 59)),zm 12 60]
def T66n8:XC:=.seq (.seq (.ops [zf 47 6 14,zx 48 (.load [.str] false (.tmp 47)),zx 49 (.eqs .neq (.tmp 48) (.const (.string (ByteArray.mk (Array.mk [])))))]) (.cond (.tmp 49) (.ref 6) .skip)) (.ref 7)
def T66n9:XC:=.seq (.blk 3 (.seq (.ops [zd 45 7 41 43,zx 46 (.load [.int .i64,.int .i64,.int .i64,.int .i64,.int .i64,.int .i64,.str] true (.tmp 45)),zx 14 (.alloc 150 [.int .i64 0,.int .i64 0,.int .i64 0,.int .i64 0,.int .i64 0,.int .i64 0,.string (ByteArray.mk (Array.mk []))]),zn (.store 7 (.tmp 14) (.tmp 46))]) (.ref 8))) (.ops [zp 61 43,zm 43 61])
def T66n10:XC:=.seq (.cond (.tmp 44) .skip (.exit 2)) (.ref 9)
def T66n11:XC:=.seq (.ops [zk 44 .lss 43 42]) (.ref 10)
def T66n12:XC:=.seq (.ops [zm 62 12,zm 2 62,zx 3 (.mov (.const (.int .i64 0))),zx 4 (.mov (.const (.int .i64 0)))]) .ret
def T66n13:XC:=.seq (.seq (.ops [zm 41 5,ze 42 41,zx 43 (.mov (.const (.int .i64 0)))]) (.blk 2 (.loop (.ref 11)))) (.ref 12)
def T66n14:XC:=.seq (.ops [zx 12 (.mov (.const (.slice none 0 0)))]) (.ref 13)
def T66n15:XC:=.seq (.seq (.ops [zm 29 6,ze 30 29,zx 31 (.mov (.const (.int .i64 0)))]) (.blk 0 (.loop (.ref 5)))) (.ref 14)
def T66n16:XC:=.seq (.ops [.mk (some 28) none (.k .mkmap),zm 9 28]) (.ref 15)
def T66n17:XC:=.seq (.seq (.ops [zm 21 0,zm 22 5,zm 23 7,zc 24 97 [.tmp 21,.tmp 22,.tmp 23],zm 8 24]) (.ref 1)) (.ref 16)
def T66n18:XC:=.seq (.ops [zm 16 0,zc 17 96 [.tmp 16],zm 15 17,zy 18 15 0,zy 19 15 1,zy 20 15 2,zm 5 18,zm 6 19,zm 7 20]) (.ref 17)
def T66:Nat→XC
 | 0=>T66n0
 | 1=>T66n1
 | 2=>T66n2
 | 3=>T66n3
 | 4=>T66n4
 | 5=>T66n5
 | 6=>T66n6
 | 7=>T66n7
 | 8=>T66n8
 | 9=>T66n9
 | 10=>T66n10
 | 11=>T66n11
 | 12=>T66n12
 | 13=>T66n13
 | 14=>T66n14
 | 15=>T66n15
 | 16=>T66n16
 | 17=>T66n17
 | 18=>T66n18
 | _=>.skip
theorem t66n0:T66 0=T66n0:=rfl
theorem t66n1:T66 1=T66n1:=rfl
theorem t66n2:T66 2=T66n2:=rfl
theorem t66n3:T66 3=T66n3:=rfl
theorem t66n4:T66 4=T66n4:=rfl
theorem t66n5:T66 5=T66n5:=rfl
theorem t66n6:T66 6=T66n6:=rfl
theorem t66n7:T66 7=T66n7:=rfl
theorem t66n8:T66 8=T66n8:=rfl
theorem t66n9:T66 9=T66n9:=rfl
theorem t66n10:T66 10=T66n10:=rfl
theorem t66n11:T66 11=T66n11:=rfl
theorem t66n12:T66 12=T66n12:=rfl
theorem t66n13:T66 13=T66n13:=rfl
theorem t66n14:T66 14=T66n14:=rfl
theorem t66n15:T66 15=T66n15:=rfl
theorem t66n16:T66 16=T66n16:=rfl
theorem t66n17:T66 17=T66n17:=rfl
theorem t66n18:T66 18=T66n18:=rfl
def X66:XC:=.seq (.ops [zx 2 (.mov (.const (.slice none 0 0))),zx 3 (.mov (.const (.int .i64 0))),zx 4 (.mov (.const (.int .i64 0)))]) (.ref 18)
abbrev K66:List Nat:=[0,2,3,4,5,6,7,8,9,11,12,14,26,29,30,31,32,41,42,43,44,49]
theorem n66:Tryz.f66.ntmps=63:=by kernel_rfl
theorem r66:resT Tryz.f66.results.toList=some [2,3,4]:=by kernel_rfl
theorem x66:cmpF Tryz.prog Tryz.f66=some (expand T66 20 X66):=by kernel_rfl
def T96n0:XC:=.seq (.ops [zm 8 18]) (.ops [zm 9 19])
def T96n1:XC:=.seq (.ops [zx 34 (.load [.slc] false (.tmp 5)),zx 35 (.load [.slc] false (.tmp 6)),zm 36 8,zn (.store 1 (.tmp 2) (.tmp 34)),.mk none none (.still 35 (.load [.slc] false (.tmp 6))),zn (.store 1 (.tmp 3) (.tmp 35)),zn (.store 1 (.tmp 4) (.tmp 36))]) .ret
def T96n2:XC:=.seq (.ops [zx 39 (.load [.slc] false (.tmp 6)),zm 40 10,zx 41 (.load [.slc] false (.tmp 5)),ze 42 41,zx 43 (.build [.string (ByteArray.mk (Array.mk [])),.int .i64 0] [(0,1,.tmp 40),(1,1,.tmp 42)]),zx 44 (.buildS 148 1 2 [.string (ByteArray.mk (Array.mk [])),.int .i64 0] [(0,.tmp 43)]),zx 45 (.app 148 2 24 (.tmp 39) (.tmp 44)),zn (.store 1 (.tmp 6) (.tmp 45))]) (.exit 1)
def T96n3:XC:=.seq (.ops [zx 37 (.load [.map] false (.tmp 7)),zm 38 10,zn (.mupd .str (.tmp 37) (.tmp 38) (.const (.int .i64 1)))]) (.ref 2)
def T96n4:XC:=.seq (.seq (.ops [zx 30 (.load [.map] false (.tmp 7)),zm 31 10,zx 32 (.lkup .str (.int .i64 0) false (.tmp 30) (.tmp 31)),zx 33 (.cmp .gtr .i64 (.tmp 32) (.const (.int .i64 0)))]) (.cond (.tmp 33) (.ref 1) .skip)) (.ref 3)
def T96n5:XC:=.seq (.ops [zm 25 11,zm 26 25,zh 27 26 true 10,.mk (some 28) (some (26,true)) (.call 127 [.tmp 27]),zx 29 (.pick (.tmp 26) (.tmp 28) (.const (.bool false)))]) (.cond (.tmp 29) (.ref 4) .skip)
def T96n6:XC:=.seq (.ops [zx 59 (.load [.slc] false (.tmp 5)),zx 60 (.load [.slc] false (.tmp 6)),zm 61 8,zn (.store 1 (.tmp 2) (.tmp 59)),.mk none none (.still 60 (.load [.slc] false (.tmp 6))),zn (.store 1 (.tmp 3) (.tmp 60)),zn (.store 1 (.tmp 4) (.tmp 61))]) .ret
def T96n7:XC:=.ops [zx 62 (.load [.slc] false (.tmp 5)),zm 63 8,zi 64 12,zm 65 13,zx 66 (.build [.int .i64 0,.int .i64 0,.int .i64 0,.int .i64 0,.int .i64 0,.int .i64 0,.string (ByteArray.mk (Array.mk []))] [(0,1,.tmp 63),(1,5,.tmp 64),(6,1,.tmp 65)]),zx 67 (.buildS 150 1 7 [.int .i64 0,.int .i64 0,.int .i64 0,.int .i64 0,.int .i64 0,.int .i64 0,.string (ByteArray.mk (Array.mk []))] [(0,.tmp 66)]),zx 68 (.app 150 7 64 (.tmp 62) (.tmp 67)),zn (.store 1 (.tmp 5) (.tmp 68))]
def T96n8:XC:=.seq (.seq (.ops [zm 52 14,zx 53 (.not (.tmp 52)),zm 54 53,zg 55 54 false (.load [.slc] false (.tmp 5)),zg 56 54 false (.lenS (.tmp 55)),zg 57 54 false (.cmp .geq .i64 (.tmp 56) (.const (.int .i64 1024))),zx 58 (.pick (.tmp 54) (.const (.bool true)) (.tmp 57))]) (.cond (.tmp 58) (.ref 6) .skip)) (.ref 7)
def T96n9:XC:=.seq (.ops [zm 47 9,zc 48 128 [.tmp 47],zm 46 48,zy 49 46 0,zy 50 46 1,zy 51 46 2,zx 12 (.alloc 41 [.int .i64 0,.int .i64 0,.int .i64 0,.int .i64 0,.int .i64 0]),zn (.store 5 (.tmp 12) (.tmp 49)),zm 13 50,zm 14 51]) (.ref 8)
def T96n10:XC:=.blk 1 (.seq (.seq (.ops [zm 21 9,.mk (some 22) none (.call 126 [.tmp 21,.const (.string (ByteArray.mk (Array.mk [UInt8.ofNat 58])))]),zm 20 22,zy 23 20 0,zy 24 20 1,zm 10 23,zm 11 24]) (.ref 5)) (.ref 9))
def T96n11:XC:=.blk 0 (.rng (.tmp 17) [18,19] (.ref 0) (.ref 10))
def T96n12:XC:=.seq (.ops [zx 69 (.load [.slc] false (.tmp 5)),zx 70 (.load [.slc] false (.tmp 6)),zn (.store 1 (.tmp 2) (.tmp 69)),.mk none none (.still 70 (.load [.slc] false (.tmp 6))),zn (.store 1 (.tmp 3) (.tmp 70)),zn (.store 1 (.tmp 4) (.const (.int .i64 0)))]) .ret
def T96n13:XC:=.seq (.seq (.ops [zm 16 0,zc 17 125 [.tmp 16]]) (.ref 11)) (.ref 12)
def T96n14:XC:=.seq (.ops [.mk (some 15) none (.k .mkmap),zx 7 (.alloc 146 [.map none]),zn (.store 1 (.tmp 7) (.tmp 15))]) (.ref 13)
def T96n15:XC:=.seq (.ops [zx 6 (.alloc 142 [.slice none 0 0])]) (.ref 14)
def T96n16:XC:=.seq (.ops [zx 5 (.alloc 141 [.slice none 0 0])]) (.ref 15)
def T96:Nat→XC
 | 0=>T96n0
 | 1=>T96n1
 | 2=>T96n2
 | 3=>T96n3
 | 4=>T96n4
 | 5=>T96n5
 | 6=>T96n6
 | 7=>T96n7
 | 8=>T96n8
 | 9=>T96n9
 | 10=>T96n10
 | 11=>T96n11
 | 12=>T96n12
 | 13=>T96n13
 | 14=>T96n14
 | 15=>T96n15
 | 16=>T96n16
 | _=>.skip
theorem t96n0:T96 0=T96n0:=rfl
theorem t96n1:T96 1=T96n1:=rfl
theorem t96n2:T96 2=T96n2:=rfl
theorem t96n3:T96 3=T96n3:=rfl
theorem t96n4:T96 4=T96n4:=rfl
theorem t96n5:T96 5=T96n5:=rfl
theorem t96n6:T96 6=T96n6:=rfl
theorem t96n7:T96 7=T96n7:=rfl
theorem t96n8:T96 8=T96n8:=rfl
theorem t96n9:T96 9=T96n9:=rfl
theorem t96n10:T96 10=T96n10:=rfl
theorem t96n11:T96 11=T96n11:=rfl
theorem t96n12:T96 12=T96n12:=rfl
theorem t96n13:T96 13=T96n13:=rfl
theorem t96n14:T96 14=T96n14:=rfl
theorem t96n15:T96 15=T96n15:=rfl
theorem t96n16:T96 16=T96n16:=rfl
def X96:XC:=.seq (.ops [zx 2 (.alloc 141 [.slice none 0 0]),zx 3 (.alloc 142 [.slice none 0 0]),zx 4 (.alloc 3 [.int .i64 0])]) (.ref 16)
abbrev K96:List Nat:=[0,2,3,4,5,6,7,8,9,10,11,12,13,14,17,18,19,29,33,58]
theorem n96:Tryz.f96.ntmps=71:=by kernel_rfl
theorem r96:rvOf Tryz.prog Tryz.f96.results.toList=some [RV.cell 2 1 false,RV.cell 3 1 false,RV.cell 4 1 false]:=by kernel_rfl
theorem x96:cmpF Tryz.prog Tryz.f96=some (expand T96 18 X96):=by kernel_rfl
def T97n0:XC:=.seq (.ops [zf 28 0 9,zl 29 28,zm 6 29]) .ret
def T97n1:XC:=.seq (.ops [zf 18 6 9,zx 19 (.load [.str] false (.tmp 18)),zx 20 (.eqs .neq (.tmp 19) (.const (.string (ByteArray.mk (Array.mk []))))),zm 21 20,zh 22 21 true 7,zg 23 21 true (.fld 6 (.tmp 9)),zg 24 21 true (.load [.str] false (.tmp 23)),zg 25 21 true (.lkup .str (.int .i64 0) false (.tmp 22) (.tmp 24)),zg 26 21 true (.cmp .eql .i64 (.tmp 25) (.const (.int .i64 0))),zx 27 (.pick (.tmp 21) (.tmp 26) (.const (.bool false)))]) (.cond (.tmp 27) (.ref 0) .skip)
def T97n2:XC:=.seq (.blk 1 (.seq (.ops [zd 16 7 12 14,zx 17 (.load [.int .i64,.int .i64,.int .i64,.int .i64,.int .i64,.int .i64,.str] true (.tmp 16)),zx 9 (.alloc 150 [.int .i64 0,.int .i64 0,.int .i64 0,.int .i64 0,.int .i64 0,.int .i64 0,.string (ByteArray.mk (Array.mk []))]),zn (.store 7 (.tmp 9) (.tmp 17))]) (.ref 1))) (.ops [zp 30 14,zm 14 30])
def T97n3:XC:=.seq (.cond (.tmp 15) .skip (.exit 0)) (.ref 2)
def T97n4:XC:=.seq (.ops [zk 15 .lss 14 13]) (.ref 3)
def T97n5:XC:=.seq (.ops [zm 31 2,zm 6 31]) .ret
def T97n6:XC:=.seq (.seq (.ops [zm 12 1,ze 13 12,zx 14 (.mov (.const (.int .i64 0)))]) (.blk 0 (.loop (.ref 4)))) (.ref 5)
def T97n7:XC:=.seq (.ops [zm 10 0,zc 11 129 [.tmp 10],zm 7 11]) (.ref 6)
def T97:Nat→XC
 | 0=>T97n0
 | 1=>T97n1
 | 2=>T97n2
 | 3=>T97n3
 | 4=>T97n4
 | 5=>T97n5
 | 6=>T97n6
 | 7=>T97n7
 | _=>.skip
theorem t97n0:T97 0=T97n0:=rfl
theorem t97n1:T97 1=T97n1:=rfl
theorem t97n2:T97 2=T97n2:=rfl
theorem t97n3:T97 3=T97n3:=rfl
theorem t97n4:T97 4=T97n4:=rfl
theorem t97n5:T97 5=T97n5:=rfl
theorem t97n6:T97 6=T97n6:=rfl
theorem t97n7:T97 7=T97n7:=rfl
def X97:XC:=.seq (.ops [zx 6 (.mov (.const (.int .i64 0)))]) (.ref 7)
abbrev K97:List Nat:=[0,1,2,6,7,9,12,13,14,15,27]
theorem n97:Tryz.f97.ntmps=32:=by kernel_rfl
theorem r97:resT Tryz.f97.results.toList=some [6]:=by kernel_rfl
theorem x97:cmpF Tryz.prog Tryz.f97=some (expand T97 9 X97):=by kernel_rfl
def T125n0:XC:=.seq (.ops [zx 3 (.mkfn (.func 147) [] [.tmp 1]),zm 2 3]) .ret
def T125:Nat→XC
 | 0=>T125n0
 | _=>.skip
theorem t125n0:T125 0=T125n0:=rfl
def X125:XC:=.seq (.ops [zx 1 (.box 9 1 (.tmp 0)),zx 2 (.mov (.const .nilFunc))]) (.ref 0)
abbrev K125:List Nat:=[0,1,2]
theorem n125:Tryz.f125.ntmps=4:=by kernel_rfl
theorem r125:resT Tryz.f125.results.toList=some [2]:=by kernel_rfl
theorem x125:cmpF Tryz.prog Tryz.f125=some (expand T125 2 X125):=by kernel_rfl
def T127n0:XC:=.seq (.ops [zx 2 (.mov (.const (.bool false)))]) .ret
def T127n1:XC:=.seq (.ops [zx 2 (.mov (.const (.bool false)))]) .ret
def T127n2:XC:=.seq (.ops [zm 31 4,zx 32 (.cmp .lss .u8 (.tmp 31) (.const (.int .u8 97))),zm 33 32,zh 34 33 false 4,zg 35 33 false (.cmp .gtr .u8 (.tmp 34) (.const (.int .u8 122))),zx 36 (.pick (.tmp 33) (.const (.bool true)) (.tmp 35)),zm 37 36,zh 38 37 true 4,zg 39 37 true (.cmp .lss .u8 (.tmp 38) (.const (.int .u8 48))),zh 40 37 true 39,zh 41 40 false 4,zg 42 40 false (.cmp .gtr .u8 (.tmp 41) (.const (.int .u8 57))),zg 43 37 true (.pick (.tmp 40) (.const (.bool true)) (.tmp 42)),zx 44 (.pick (.tmp 37) (.tmp 43) (.const (.bool false))),zm 45 44,zh 46 45 true 4,zg 47 45 true (.cmp .neq .u8 (.tmp 46) (.const (.int .u8 95))),zx 48 (.pick (.tmp 45) (.tmp 47) (.const (.bool false)))]) (.cond (.tmp 48) (.ref 1) .skip)
def T127n3:XC:=.seq (.ops [zm 28 0,zm 29 3,zx 30 (.ixT (.tmp 28) (.tmp 29)),zm 4 30]) (.ref 2)
def T127n4:XC:=.seq (.blk 1 (.seq (.ops [zm 27 25,zm 3 27]) (.ref 3))) (.ops [zp 49 25,zm 25 49])
def T127n5:XC:=.seq (.cond (.tmp 26) .skip (.exit 0)) (.ref 4)
def T127n6:XC:=.seq (.ops [zk 26 .lss 25 24]) (.ref 5)
def T127n7:XC:=.seq (.ops [zm 50 0,zc 51 152 [.tmp 50],zx 52 (.not (.tmp 51)),zm 2 52]) .ret
def T127n8:XC:=.seq (.seq (.ops [zm 23 0,zx 24 (.lenT (.tmp 23)),zx 25 (.mov (.const (.int .i64 0)))]) (.blk 0 (.loop (.ref 6)))) (.ref 7)
def T127n9:XC:=.seq (.seq (.ops [zm 5 0,zx 6 (.lenT (.tmp 5)),zx 7 (.cmp .lss .i64 (.tmp 6) (.const (.int .i64 1))),zm 8 7,zh 9 8 false 0,zg 10 8 false (.lenT (.tmp 9)),zg 11 8 false (.cmp .gtr .i64 (.tmp 10) (.const (.int .i64 16))),zx 12 (.pick (.tmp 8) (.const (.bool true)) (.tmp 11)),zm 13 12,zh 14 13 false 0,zg 15 13 false (.ixT (.tmp 14) (.const (.int .i64 0))),zg 16 13 false (.cmp .lss .u8 (.tmp 15) (.const (.int .u8 97))),zx 17 (.pick (.tmp 13) (.const (.bool true)) (.tmp 16)),zm 18 17,zh 19 18 false 0,zg 20 18 false (.ixT (.tmp 19) (.const (.int .i64 0))),zg 21 18 false (.cmp .gtr .u8 (.tmp 20) (.const (.int .u8 122))),zx 22 (.pick (.tmp 18) (.const (.bool true)) (.tmp 21))]) (.cond (.tmp 22) (.ref 0) .skip)) (.ref 8)
def T127:Nat→XC
 | 0=>T127n0
 | 1=>T127n1
 | 2=>T127n2
 | 3=>T127n3
 | 4=>T127n4
 | 5=>T127n5
 | 6=>T127n6
 | 7=>T127n7
 | 8=>T127n8
 | 9=>T127n9
 | _=>.skip
theorem t127n0:T127 0=T127n0:=rfl
theorem t127n1:T127 1=T127n1:=rfl
theorem t127n2:T127 2=T127n2:=rfl
theorem t127n3:T127 3=T127n3:=rfl
theorem t127n4:T127 4=T127n4:=rfl
theorem t127n5:T127 5=T127n5:=rfl
theorem t127n6:T127 6=T127n6:=rfl
theorem t127n7:T127 7=T127n7:=rfl
theorem t127n8:T127 8=T127n8:=rfl
theorem t127n9:T127 9=T127n9:=rfl
def X127:XC:=.seq (.ops [zx 2 (.mov (.const (.bool false)))]) (.ref 9)
abbrev K127:List Nat:=[0,2,3,4,22,24,25,26,48]
theorem n127:Tryz.f127.ntmps=53:=by kernel_rfl
theorem r127:resT Tryz.f127.results.toList=some [2]:=by kernel_rfl
theorem x127:cmpF Tryz.prog Tryz.f127=some (expand T127 11 X127):=by kernel_rfl
def T128n0:XC:=.seq (.ops [zi 15 5,zn (.store 5 (.tmp 2) (.tmp 15)),zx 3 (.mov (.const (.string (ByteArray.mk (Array.mk []))))),zx 4 (.mov (.const (.bool true)))]) .ret
def T128n1:XC:=.seq (.ops [zx 28 (.build [.int .i64 0,.int .i64 0,.int .i64 0,.int .i64 0,.int .i64 0] []),zn (.store 5 (.tmp 2) (.tmp 28)),zx 3 (.mov (.const (.string (ByteArray.mk (Array.mk []))))),zx 4 (.mov (.const (.bool false)))]) .ret
def T128n2:XC:=.seq (.ops [zx 54 (.build [.int .i64 0,.int .i64 0,.int .i64 0,.int .i64 0,.int .i64 0] []),zn (.store 5 (.tmp 2) (.tmp 54)),zx 3 (.mov (.const (.string (ByteArray.mk (Array.mk []))))),zx 4 (.mov (.const (.bool false)))]) .ret
def T128n3:XC:=.seq (.ops [zi 55 5,zm 56 0,zm 57 7,zp 58 57,zx 59 (.subT (.tmp 56) (some (.tmp 58)) none),zn (.store 5 (.tmp 2) (.tmp 55)),zm 3 59,zx 4 (.mov (.const (.bool true)))]) .ret
def T128n4:XC:=.seq (.seq (.ops [zm 37 6,zx 38 (.cmp .neq .i64 (.tmp 37) (.const (.int .i64 0))),zm 39 38,zg 40 39 false (.fld 0 (.tmp 5)),zg 41 39 false (.load [.int .i64] false (.tmp 40)),.mk (some 42) (some (39,false)) (.call 155 [.tmp 41]),zg 43 39 false (.not (.tmp 42)),zx 44 (.pick (.tmp 39) (.const (.bool true)) (.tmp 43)),zm 45 44,zg 46 45 false (.load [.int .i64,.int .i64,.int .i64,.int .i64,.int .i64] true (.tmp 5)),.mk (some 47) (some (45,false)) (.call 21 [.tmp 46]),zg 48 45 false (.not (.tmp 47)),zx 49 (.pick (.tmp 45) (.const (.bool true)) (.tmp 48)),zm 50 49,zh 51 50 false 0,.mk (some 52) (some (50,false)) (.call 156 [.tmp 51,.const (.string (ByteArray.mk (Array.mk [UInt8.ofNat 114,UInt8.ofNat 97,UInt8.ofNat 119])))]),zx 53 (.pick (.tmp 50) (.const (.bool true)) (.tmp 52))]) (.cond (.tmp 53) (.ref 2) .skip)) (.ref 3)
def T128n5:XC:=.seq (.ops [zm 30 0,zm 31 7,zx 32 (.subT (.tmp 30) none (some (.tmp 31))),zx 33 (.cat (.tmp 32) (.const (.string (ByteArray.mk (Array.mk [UInt8.ofNat 32,UInt8.ofNat 48]))))),zc 34 153 [.tmp 33],zm 29 34,zy 35 29 0,zy 36 29 1,zn (.store 5 (.tmp 5) (.tmp 35)),zm 6 36]) (.ref 4)
def T128n6:XC:=.seq (.seq (.ops [zm 18 7,zx 19 (.cmp .lss .i64 (.tmp 18) (.const (.int .i64 0))),zm 20 19,zh 21 20 false 0,zh 22 20 false 7,zg 23 20 false (.arith .add .i64 (.tmp 22) (.const (.int .i64 1))),zg 24 20 false (.subT (.tmp 21) (some (.tmp 23)) none),.mk (some 25) (some (20,false)) (.call 127 [.tmp 24]),zg 26 20 false (.not (.tmp 25)),zx 27 (.pick (.tmp 20) (.const (.bool true)) (.tmp 26))]) (.cond (.tmp 27) (.ref 1) .skip)) (.ref 5)
def T128n7:XC:=.seq (.ops [zm 16 0,zc 17 154 [.tmp 16,.const (.int .u8 32)],zm 7 17]) (.ref 6)
def T128n8:XC:=.seq (.seq (.ops [zm 13 6,zx 14 (.cmp .eql .i64 (.tmp 13) (.const (.int .i64 0)))]) (.cond (.tmp 14) (.ref 0) .skip)) (.ref 7)
def T128n9:XC:=.seq (.ops [zm 9 0,zc 10 153 [.tmp 9],zm 8 10,zy 11 8 0,zy 12 8 1,zx 5 (.alloc 41 [.int .i64 0,.int .i64 0,.int .i64 0,.int .i64 0,.int .i64 0]),zn (.store 5 (.tmp 5) (.tmp 11)),zm 6 12]) (.ref 8)
def T128:Nat→XC
 | 0=>T128n0
 | 1=>T128n1
 | 2=>T128n2
 | 3=>T128n3
 | 4=>T128n4
 | 5=>T128n5
 | 6=>T128n6
 | 7=>T128n7
 | 8=>T128n8
 | 9=>T128n9
 | _=>.skip
theorem t128n0:T128 0=T128n0:=rfl
theorem t128n1:T128 1=T128n1:=rfl
theorem t128n2:T128 2=T128n2:=rfl
theorem t128n3:T128 3=T128n3:=rfl
theorem t128n4:T128 4=T128n4:=rfl
theorem t128n5:T128 5=T128n5:=rfl
theorem t128n6:T128 6=T128n6:=rfl
theorem t128n7:T128 7=T128n7:=rfl
theorem t128n8:T128 8=T128n8:=rfl
theorem t128n9:T128 9=T128n9:=rfl
def X128:XC:=.seq (.ops [zx 2 (.alloc 41 [.int .i64 0,.int .i64 0,.int .i64 0,.int .i64 0,.int .i64 0]),zx 3 (.mov (.const (.string (ByteArray.mk (Array.mk []))))),zx 4 (.mov (.const (.bool false)))]) (.ref 9)
abbrev K128:List Nat:=[0,2,3,4,5,6,7,14,27,53]
theorem n128:Tryz.f128.ntmps=60:=by kernel_rfl
theorem r128:rvOf Tryz.prog Tryz.f128.results.toList=some [RV.cell 2 5 true,RV.tmp 3,RV.tmp 4]:=by kernel_rfl
theorem x128:cmpF Tryz.prog Tryz.f128=some (expand T128 11 X128):=by kernel_rfl
def T129n0:XC:=.ops [zx 23 (.load [.map] false (.tmp 3)),zm 24 6,zn (.mupd .str (.tmp 23) (.tmp 24) (.const (.int .i64 1)))]
def T129n1:XC:=.seq (.ops [zm 18 7,zm 19 18,zh 20 19 true 6,.mk (some 21) (some (19,true)) (.call 127 [.tmp 20]),zx 22 (.pick (.tmp 19) (.tmp 21) (.const (.bool false)))]) (.cond (.tmp 22) (.ref 0) .skip)
def T129n2:XC:=.blk 1 (.seq (.ops [zm 14 5,.mk (some 15) none (.call 126 [.tmp 14,.const (.string (ByteArray.mk (Array.mk [UInt8.ofNat 58])))]),zm 13 15,zy 16 13 0,zy 17 13 1,zm 6 16,zm 7 17]) (.ref 1))
def T129n3:XC:=.blk 0 (.rng (.tmp 10) [11,12] (.ops [zm 5 12]) (.ref 2))
def T129n4:XC:=.seq (.ops [zx 25 (.load [.map] false (.tmp 3)),zm 2 25]) .ret
def T129n5:XC:=.seq (.seq (.ops [zm 9 0,zc 10 125 [.tmp 9]]) (.ref 3)) (.ref 4)
def T129n6:XC:=.seq (.ops [.mk (some 8) none (.k .mkmap),zx 3 (.alloc 146 [.map none]),zn (.store 1 (.tmp 3) (.tmp 8))]) (.ref 5)
def T129:Nat→XC
 | 0=>T129n0
 | 1=>T129n1
 | 2=>T129n2
 | 3=>T129n3
 | 4=>T129n4
 | 5=>T129n5
 | 6=>T129n6
 | _=>.skip
theorem t129n0:T129 0=T129n0:=rfl
theorem t129n1:T129 1=T129n1:=rfl
theorem t129n2:T129 2=T129n2:=rfl
theorem t129n3:T129 3=T129n3:=rfl
theorem t129n4:T129 4=T129n4:=rfl
theorem t129n5:T129 5=T129n5:=rfl
theorem t129n6:T129 6=T129n6:=rfl
def X129:XC:=.seq (.ops [zx 2 (.mov (.const (.map none)))]) (.ref 6)
abbrev K129:List Nat:=[0,2,3,5,6,7,10,12,22]
theorem n129:Tryz.f129.ntmps=26:=by kernel_rfl
theorem r129:resT Tryz.f129.results.toList=some [2]:=by kernel_rfl
theorem x129:cmpF Tryz.prog Tryz.f129=some (expand T129 8 X129):=by kernel_rfl
def T147n0:XC:=.seq (.ops [zm 23 0,zm 24 3,zp 25 24,zm 26 4,.mk (some 27) none (.callv (.tmp 23) [.tmp 25,.tmp 26]),zx 28 (.not (.tmp 27))]) (.cond (.tmp 28) .ret .skip)
def T147n1:XC:=.seq (.seq (.ops [zm 21 4,zx 22 (.eqs .eql (.tmp 21) (.const (.string (ByteArray.mk (Array.mk [])))))]) (.cond (.tmp 22) (.exit 1) .skip)) (.ref 0)
def T147n2:XC:=.seq (.ops [zm 19 4,.mk (some 20) none (.call 150 [.tmp 19,.const (.string (ByteArray.mk (Array.mk [UInt8.ofNat 32,UInt8.ofNat 9])))]),zm 4 20]) (.ref 1)
def T147n3:XC:=.seq (.ops [zm 14 4,.mk (some 15) none (.call 149 [.tmp 14,.const (.string (ByteArray.mk (Array.mk [UInt8.ofNat 59])))]),zm 13 15,zy 16 13 0,zy 17 13 1,zy 18 13 2,zm 4 16]) (.ref 2)
def T147n4:XC:=.seq (.blk 1 (.seq (.ops [zm 10 8,zd 11 1 6 8,zx 12 (.load [.str] false (.tmp 11)),zm 3 10,zm 4 12]) (.ref 3))) (.ops [zp 29 8,zm 8 29])
def T147n5:XC:=.seq (.cond (.tmp 9) .skip (.exit 0)) (.ref 4)
def T147n6:XC:=.seq (.ops [zk 9 .lss 8 7]) (.ref 5)
def T147n7:XC:=.seq (.ops [zx 5 (.load [.str] false (.tmp 1)),.mk (some 6) none (.call 148 [.tmp 5,.const (.string (ByteArray.mk (Array.mk [UInt8.ofNat 10])))]),ze 7 6,zx 8 (.mov (.const (.int .i64 0)))]) (.blk 0 (.loop (.ref 6)))
def T147:Nat→XC
 | 0=>T147n0
 | 1=>T147n1
 | 2=>T147n2
 | 3=>T147n3
 | 4=>T147n4
 | 5=>T147n5
 | 6=>T147n6
 | 7=>T147n7
 | _=>.skip
theorem t147n0:T147 0=T147n0:=rfl
theorem t147n1:T147 1=T147n1:=rfl
theorem t147n2:T147 2=T147n2:=rfl
theorem t147n3:T147 3=T147n3:=rfl
theorem t147n4:T147 4=T147n4:=rfl
theorem t147n5:T147 5=T147n5:=rfl
theorem t147n6:T147 6=T147n6:=rfl
theorem t147n7:T147 7=T147n7:=rfl
def X147:XC:=.scp (.seq (.lab) (.ref 7))
abbrev K147:List Nat:=[0,1,3,4,6,7,8,9,22,28]
theorem n147:Tryz.f147.ntmps=30:=by kernel_rfl
theorem r147:resT Tryz.f147.results.toList=some []:=by kernel_rfl
theorem x147:cmpF Tryz.prog Tryz.f147=some (expand T147 9 X147):=by kernel_rfl
def T152n0:XC:=.seq (.ops [zx 2 (.mov (.const (.bool true)))]) .ret
def T152n1:XC:=.seq (.ops [zx 2 (.mov (.const (.bool true)))]) .ret
def T152n2:XC:=.seq (.ops [zm 21 4,zm 22 0,zx 23 (.eqs .eql (.tmp 21) (.tmp 22))]) (.cond (.tmp 23) (.ref 1) .skip)
def T152n3:XC:=.ops [zm 11 3,zp 12 11,zm 3 12]
def T152n4:XC:=.seq (.blk 1 (.seq (.ops [zm 14 3,zx 15 (.build [.int .i64 0,.int .i64 0,.int .i64 0,.int .i64 0,.int .i64 0] [(0,1,.tmp 14)]),zc 16 173 [.tmp 15],.mk (some 17) none (.call 149 [.tmp 16,.const (.string (ByteArray.mk (Array.mk [UInt8.ofNat 32])))]),zm 13 17,zy 18 13 0,zy 19 13 1,zy 20 13 2,zm 4 18,zm 5 19,zm 6 20]) (.ref 2))) (.ref 3)
def T152n5:XC:=.seq (.seq (.ops [zm 9 3,zx 10 (.cmp .leq .i64 (.tmp 9) (.const (.int .i64 18)))]) (.cond (.tmp 10) .skip (.exit 0))) (.ref 4)
def T152n6:XC:=.seq (.ops [zx 2 (.mov (.const (.bool false)))]) .ret
def T152n7:XC:=.seq (.seq (.ops [zx 3 (.mov (.const (.int .i64 1)))]) (.blk 0 (.loop (.ref 5)))) (.ref 6)
def T152n8:XC:=.seq (.seq (.ops [zm 7 0,zx 8 (.eqs .eql (.tmp 7) (.const (.string (ByteArray.mk (Array.mk [UInt8.ofNat 114,UInt8.ofNat 97,UInt8.ofNat 119])))))]) (.cond (.tmp 8) (.ref 0) .skip)) (.ref 7)
def T152:Nat→XC
 | 0=>T152n0
 | 1=>T152n1
 | 2=>T152n2
 | 3=>T152n3
 | 4=>T152n4
 | 5=>T152n5
 | 6=>T152n6
 | 7=>T152n7
 | 8=>T152n8
 | _=>.skip
theorem t152n0:T152 0=T152n0:=rfl
theorem t152n1:T152 1=T152n1:=rfl
theorem t152n2:T152 2=T152n2:=rfl
theorem t152n3:T152 3=T152n3:=rfl
theorem t152n4:T152 4=T152n4:=rfl
theorem t152n5:T152 5=T152n5:=rfl
theorem t152n6:T152 6=T152n6:=rfl
theorem t152n7:T152 7=T152n7:=rfl
theorem t152n8:T152 8=T152n8:=rfl
def X152:XC:=.seq (.ops [zx 2 (.mov (.const (.bool false)))]) (.ref 8)
abbrev K152:List Nat:=[0,2,3,4,8,10,23]
theorem n152:Tryz.f152.ntmps=24:=by kernel_rfl
theorem r152:resT Tryz.f152.results.toList=some [2]:=by kernel_rfl
theorem x152:cmpF Tryz.prog Tryz.f152=some (expand T152 10 X152):=by kernel_rfl
def T155n0:XC:=.seq (.ops [zm 3 0,zx 4 (.cmp .eql .i64 (.tmp 3) (.const (.int .i64 13))),zm 5 4,zh 6 5 false 0,zg 7 5 false (.cmp .eql .i64 (.tmp 6) (.const (.int .i64 14))),zx 8 (.pick (.tmp 5) (.const (.bool true)) (.tmp 7)),zm 9 8,zh 10 9 false 0,zg 11 9 false (.cmp .eql .i64 (.tmp 10) (.const (.int .i64 15))),zx 12 (.pick (.tmp 9) (.const (.bool true)) (.tmp 11)),zm 13 12,zh 14 13 false 0,zg 15 13 false (.cmp .eql .i64 (.tmp 14) (.const (.int .i64 16))),zx 16 (.pick (.tmp 13) (.const (.bool true)) (.tmp 15)),zm 2 16]) .ret
def T155:Nat→XC
 | 0=>T155n0
 | _=>.skip
theorem t155n0:T155 0=T155n0:=rfl
def X155:XC:=.seq (.ops [zx 2 (.mov (.const (.bool false)))]) (.ref 0)
abbrev K155:List Nat:=[0,2]
theorem n155:Tryz.f155.ntmps=17:=by kernel_rfl
theorem r155:resT Tryz.f155.results.toList=some [2]:=by kernel_rfl
theorem x155:cmpF Tryz.prog Tryz.f155=some (expand T155 2 X155):=by kernel_rfl
attribute [go_sem] t66n0 t66n1 t66n2 t66n3 t66n4 t66n5 t66n6 t66n7 t66n8 t66n9 t66n10 t66n11 t66n12 t66n13 t66n14 t66n15 t66n16 t66n17 t66n18 T66n0 T66n1 T66n2 T66n3 T66n4 T66n5 T66n6 T66n7 T66n8 T66n9 T66n10 T66n11 T66n12 T66n13 T66n14 T66n15 T66n16 T66n17 T66n18 X66
attribute [go_sem] t96n0 t96n1 t96n2 t96n3 t96n4 t96n5 t96n6 t96n7 t96n8 t96n9 t96n10 t96n11 t96n12 t96n13 t96n14 t96n15 t96n16 T96n0 T96n1 T96n2 T96n3 T96n4 T96n5 T96n6 T96n7 T96n8 T96n9 T96n10 T96n11 T96n12 T96n13 T96n14 T96n15 T96n16 X96
attribute [go_sem] t97n0 t97n1 t97n2 t97n3 t97n4 t97n5 t97n6 t97n7 T97n0 T97n1 T97n2 T97n3 T97n4 T97n5 T97n6 T97n7 X97
attribute [go_sem] t125n0 T125n0 X125
attribute [go_sem] t127n0 t127n1 t127n2 t127n3 t127n4 t127n5 t127n6 t127n7 t127n8 t127n9 T127n0 T127n1 T127n2 T127n3 T127n4 T127n5 T127n6 T127n7 T127n8 T127n9 X127
attribute [go_sem] t128n0 t128n1 t128n2 t128n3 t128n4 t128n5 t128n6 t128n7 t128n8 t128n9 T128n0 T128n1 T128n2 T128n3 T128n4 T128n5 T128n6 T128n7 T128n8 T128n9 X128
attribute [go_sem] t129n0 t129n1 t129n2 t129n3 t129n4 t129n5 t129n6 T129n0 T129n1 T129n2 T129n3 T129n4 T129n5 T129n6 X129
attribute [go_sem] t147n0 t147n1 t147n2 t147n3 t147n4 t147n5 t147n6 t147n7 T147n0 T147n1 T147n2 T147n3 T147n4 T147n5 T147n6 T147n7 X147
attribute [go_sem] t152n0 t152n1 t152n2 t152n3 t152n4 t152n5 t152n6 t152n7 t152n8 T152n0 T152n1 T152n2 T152n3 T152n4 T152n5 T152n6 T152n7 T152n8 X152
attribute [go_sem] t155n0 T155n0 X155
end Go.Proofs.YtlbiogokpadaoaaGreatDoor
