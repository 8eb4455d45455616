/- Printed by program: the small code of functions, and that it is theirs. -/
import Derived.Test.YtgghmmjoplddbaaGreatDoorSxStill
import Derived.Test.YtgghmmjoplddbaaGreatDoorProg
import Derived.KernelRfl
set_option linter.unusedSimpArgs false
set_option linter.unusedVariables false
set_option linter.unnecessarySimpa false
namespace Go.Proofs.YtgghmmjoplddbaaGreatDoor
open Go Go.Sx
set_option maxRecDepth 100000
def T40n0:XC:=.seq (.ops [zm 27 8,zx 2 (.mov (.const (.slice none 0 0))),zm 3 27,zx 4 (.mov (.const (.int .i64 150)))]) .ret
def T40n1:XC:=.seq (.ops [zm 25 8,zx 26 (.cmp .gtr .i64 (.tmp 25) (.const (.int .i64 0)))]) (.cond (.tmp 26) (.ref 0) .skip)
def T40n2:XC:=.ops [zm 35 9,zf 36 0 11,zx 37 (.load [.str] false (.tmp 36)),zf 38 1 11,zl 39 38,zn (.mupd .str (.tmp 35) (.tmp 37) (.tmp 39))]
def T40n3:XC:=.seq (.blk 1 (.seq (.ops [zd 33 2 29 31,zx 34 (.load [.str,.int .i64] true (.tmp 33)),zx 11 (.alloc 143 [.string (ByteArray.mk (Array.mk [])),.int .i64 0]),zn (.store 2 (.tmp 11) (.tmp 34))]) (.ref 2))) (.ops [zp 40 31,zm 31 40])
def T40n4:XC:=.seq (.cond (.tmp 32) .skip (.exit 0)) (.ref 3)
def T40n5:XC:=.seq (.ops [zk 32 .lss 31 30]) (.ref 4)
def T40n6:XC:=.ops [zm 50 9,zf 51 6 14,zx 52 (.load [.str] false (.tmp 51)),zx 53 (.lkup .str (.int .i64 0) false (.tmp 50) (.tmp 52)),zf 54 1 14,zf 55 4 54,zn (.store 1 (.tmp 55) (.tmp 53))]
def T40n7:XC:=.ops [zm 56 12,zf 57 1 14,zi 58 57,zx 59 (.buildS 47 1 5 [.int .i64 0,.int .i64 0,.int .i64 0,.int .i64 0,.int .i64 0] [(0,.tmp 58)]),zx 60 (.app 47 5 40 (.tmp 56) (.tmp 59)),zm 12 60]
def T40n8:XC:=.seq (.seq (.ops [zf 47 6 14,zx 48 (.load [.str] false (.tmp 47)),zx 49 (.eqs .neq (.tmp 48) (.const (.string (ByteArray.mk (Array.mk [])))))]) (.cond (.tmp 49) (.ref 6) .skip)) (.ref 7)
def T40n9:XC:=.seq (.blk 3 (.seq (.ops [zd 45 7 41 43,zx 46 (.load [.int .i64,.int .i64,.int .i64,.int .i64,.int .i64,.int .i64,.str] true (.tmp 45)),zx 14 (.alloc 145 [.int .i64 0,.int .i64 0,.int .i64 0,.int .i64 0,.int .i64 0,.int .i64 0,.string (ByteArray.mk (Array.mk []))]),zn (.store 7 (.tmp 14) (.tmp 46))]) (.ref 8))) (.ops [zp 61 43,zm 43 61])
def T40n10:XC:=.seq (.cond (.tmp 44) .skip (.exit 2)) (.ref 9)
def T40n11:XC:=.seq (.ops [zk 44 .lss 43 42]) (.ref 10)
def T40n12:XC:=.seq (.ops [zm 62 12,zm 2 62,zx 3 (.mov (.const (.int .i64 0))),zx 4 (.mov (.const (.int .i64 0)))]) .ret
def T40n13:XC:=.seq (.seq (.ops [zm 41 5,ze 42 41,zx 43 (.mov (.const (.int .i64 0)))]) (.blk 2 (.loop (.ref 11)))) (.ref 12)
def T40n14:XC:=.seq (.ops [zx 12 (.mov (.const (.slice none 0 0)))]) (.ref 13)
def T40n15:XC:=.seq (.seq (.ops [zm 29 6,ze 30 29,zx 31 (.mov (.const (.int .i64 0)))]) (.blk 0 (.loop (.ref 5)))) (.ref 14)
def T40n16:XC:=.seq (.ops [.mk (some 28) none (.k .mkmap),zm 9 28]) (.ref 15)
def T40n17:XC:=.seq (.seq (.ops [zm 21 0,zm 22 5,zm 23 7,zc 24 67 [.tmp 21,.tmp 22,.tmp 23],zm 8 24]) (.ref 1)) (.ref 16)
def T40n18:XC:=.seq (.ops [zm 16 0,zc 17 66 [.tmp 16],zm 15 17,zy 18 15 0,zy 19 15 1,zy 20 15 2,zm 5 18,zm 6 19,zm 7 20]) (.ref 17)
def T40:Nat→XC
 | 0=>T40n0
 | 1=>T40n1
 | 2=>T40n2
 | 3=>T40n3
 | 4=>T40n4
 | 5=>T40n5
 | 6=>T40n6
 | 7=>T40n7
 | 8=>T40n8
 | 9=>T40n9
 | 10=>T40n10
 | 11=>T40n11
 | 12=>T40n12
 | 13=>T40n13
 | 14=>T40n14
 | 15=>T40n15
 | 16=>T40n16
 | 17=>T40n17
 | 18=>T40n18
 | _=>.skip
theorem t40n0:T40 0=T40n0:=rfl
theorem t40n1:T40 1=T40n1:=rfl
theorem t40n2:T40 2=T40n2:=rfl
theorem t40n3:T40 3=T40n3:=rfl
theorem t40n4:T40 4=T40n4:=rfl
theorem t40n5:T40 5=T40n5:=rfl
theorem t40n6:T40 6=T40n6:=rfl
theorem t40n7:T40 7=T40n7:=rfl
theorem t40n8:T40 8=T40n8:=rfl
theorem t40n9:T40 9=T40n9:=rfl
theorem t40n10:T40 10=T40n10:=rfl
theorem t40n11:T40 11=T40n11:=rfl
theorem t40n12:T40 12=T40n12:=rfl
theorem t40n13:T40 13=T40n13:=rfl
theorem t40n14:T40 14=T40n14:=rfl
theorem t40n15:T40 15=T40n15:=rfl
theorem t40n16:T40 16=T40n16:=rfl
theorem t40n17:T40 17=T40n17:=rfl
theorem t40n18:T40 18=T40n18:=rfl
def X40:XC:=.seq (.ops [zx 2 (.mov (.const (.slice none 0 0))),zx 3 (.mov (.const (.int .i64 0))),zx 4 (.mov (.const (.int .i64 0)))]) (.ref 18)
abbrev K40:List Nat:=[0,2,3,4,5,6,7,8,9,11,12,14,26,29,30,31,32,41,42,43,44,49]
theorem n40:Tryz.f40.ntmps=63:=by kernel_rfl
theorem r40:resT Tryz.f40.results.toList=some [2,3,4]:=by kernel_rfl
theorem x40:cmpF Tryz.prog Tryz.f40=some (expand T40 20 X40):=by kernel_rfl
def T66n0:XC:=.seq (.ops [zm 8 18]) (.ops [zm 9 19])
def T66n1:XC:=.seq (.ops [zx 34 (.load [.slc] false (.tmp 5)),zx 35 (.load [.slc] false (.tmp 6)),zm 36 8,zn (.store 1 (.tmp 2) (.tmp 34)),.mk none none (.still 35 (.load [.slc] false (.tmp 6))),zn (.store 1 (.tmp 3) (.tmp 35)),zn (.store 1 (.tmp 4) (.tmp 36))]) .ret
def T66n2:XC:=.seq (.ops [zx 39 (.load [.slc] false (.tmp 6)),zm 40 10,zx 41 (.load [.slc] false (.tmp 5)),ze 42 41,zx 43 (.build [.string (ByteArray.mk (Array.mk [])),.int .i64 0] [(0,1,.tmp 40),(1,1,.tmp 42)]),zx 44 (.buildS 143 1 2 [.string (ByteArray.mk (Array.mk [])),.int .i64 0] [(0,.tmp 43)]),zx 45 (.app 143 2 24 (.tmp 39) (.tmp 44)),zn (.store 1 (.tmp 6) (.tmp 45))]) (.exit 1)
def T66n3:XC:=.seq (.ops [zx 37 (.load [.map] false (.tmp 7)),zm 38 10,zn (.mupd .str (.tmp 37) (.tmp 38) (.const (.int .i64 1)))]) (.ref 2)
def T66n4:XC:=.seq (.seq (.ops [zx 30 (.load [.map] false (.tmp 7)),zm 31 10,zx 32 (.lkup .str (.int .i64 0) false (.tmp 30) (.tmp 31)),zx 33 (.cmp .gtr .i64 (.tmp 32) (.const (.int .i64 0)))]) (.cond (.tmp 33) (.ref 1) .skip)) (.ref 3)
def T66n5:XC:=.seq (.ops [zm 25 11,zm 26 25,zh 27 26 true 10,.mk (some 28) (some (26,true)) (.call 94 [.tmp 27]),zx 29 (.pick (.tmp 26) (.tmp 28) (.const (.bool false)))]) (.cond (.tmp 29) (.ref 4) .skip)
def T66n6:XC:=.seq (.ops [zx 59 (.load [.slc] false (.tmp 5)),zx 60 (.load [.slc] false (.tmp 6)),zm 61 8,zn (.store 1 (.tmp 2) (.tmp 59)),.mk none none (.still 60 (.load [.slc] false (.tmp 6))),zn (.store 1 (.tmp 3) (.tmp 60)),zn (.store 1 (.tmp 4) (.tmp 61))]) .ret
def T66n7:XC:=.ops [zx 62 (.load [.slc] false (.tmp 5)),zm 63 8,zi 64 12,zm 65 13,zx 66 (.build [.int .i64 0,.int .i64 0,.int .i64 0,.int .i64 0,.int .i64 0,.int .i64 0,.string (ByteArray.mk (Array.mk []))] [(0,1,.tmp 63),(1,5,.tmp 64),(6,1,.tmp 65)]),zx 67 (.buildS 145 1 7 [.int .i64 0,.int .i64 0,.int .i64 0,.int .i64 0,.int .i64 0,.int .i64 0,.string (ByteArray.mk (Array.mk []))] [(0,.tmp 66)]),zx 68 (.app 145 7 64 (.tmp 62) (.tmp 67)),zn (.store 1 (.tmp 5) (.tmp 68))]
def T66n8:XC:=.seq (.seq (.ops [zm 52 14,zx 53 (.not (.tmp 52)),zm 54 53,zg 55 54 false (.load [.slc] false (.tmp 5)),zg 56 54 false (.lenS (.tmp 55)),zg 57 54 false (.cmp .geq .i64 (.tmp 56) (.const (.int .i64 1024))),zx 58 (.pick (.tmp 54) (.const (.bool true)) (.tmp 57))]) (.cond (.tmp 58) (.ref 6) .skip)) (.ref 7)
def T66n9:XC:=.seq (.ops [zm 47 9,zc 48 95 [.tmp 47],zm 46 48,zy 49 46 0,zy 50 46 1,zy 51 46 2,zx 12 (.alloc 47 [.int .i64 0,.int .i64 0,.int .i64 0,.int .i64 0,.int .i64 0]),zn (.store 5 (.tmp 12) (.tmp 49)),zm 13 50,zm 14 51]) (.ref 8)
def T66n10:XC:=.blk 1 (.seq (.seq (.ops [zm 21 9,.mk (some 22) none (.call 93 [.tmp 21,.const (.string (ByteArray.mk (Array.mk [UInt8.ofNat 58])))]),zm 20 22,zy 23 20 0,zy 24 20 1,zm 10 23,zm 11 24]) (.ref 5)) (.ref 9))
def T66n11:XC:=.blk 0 (.rng (.tmp 17) [18,19] (.ref 0) (.ref 10))
def T66n12:XC:=.seq (.ops [zx 69 (.load [.slc] false (.tmp 5)),zx 70 (.load [.slc] false (.tmp 6)),zn (.store 1 (.tmp 2) (.tmp 69)),.mk none none (.still 70 (.load [.slc] false (.tmp 6))),zn (.store 1 (.tmp 3) (.tmp 70)),zn (.store 1 (.tmp 4) (.const (.int .i64 0)))]) .ret
def T66n13:XC:=.seq (.seq (.ops [zm 16 0,zc 17 92 [.tmp 16]]) (.ref 11)) (.ref 12)
def T66n14:XC:=.seq (.ops [.mk (some 15) none (.k .mkmap),zx 7 (.alloc 141 [.map none]),zn (.store 1 (.tmp 7) (.tmp 15))]) (.ref 13)
def T66n15:XC:=.seq (.ops [zx 6 (.alloc 137 [.slice none 0 0])]) (.ref 14)
def T66n16:XC:=.seq (.ops [zx 5 (.alloc 136 [.slice none 0 0])]) (.ref 15)
def T66:Nat→XC
 | 0=>T66n0
 | 1=>T66n1
 | 2=>T66n2
 | 3=>T66n3
 | 4=>T66n4
 | 5=>T66n5
 | 6=>T66n6
 | 7=>T66n7
 | 8=>T66n8
 | 9=>T66n9
 | 10=>T66n10
 | 11=>T66n11
 | 12=>T66n12
 | 13=>T66n13
 | 14=>T66n14
 | 15=>T66n15
 | 16=>T66n16
 | _=>.skip
theorem t66n0:T66 0=T66n0:=rfl
theorem t66n1:T66 1=T66n1:=rfl
theorem t66n2:T66 2=T66n2:=rfl
theorem t66n3:T66 3=T66n3:=rfl
theorem t66n4:T66 4=T66n4:=rfl
theorem t66n5:T66 5=T66n5:=rfl
theorem t66n6:T66 6=T66n6:=rfl
theorem t66n7:T66 7=T66n7:=rfl
theorem t66n8:T66 8=T66n8:=rfl
theorem t66n9:T66 9=T66n9:=rfl
theorem t66n10:T66 10=T66n10:=rfl
theorem t66n11:T66 11=T66n11:=rfl
theorem t66n12:T66 12=T66n12:=rfl
theorem t66n13:T66 13=T66n13:=rfl
theorem t66n14:T66 14=T66n14:=rfl
theorem t66n15:T66 15=T66n15:=rfl
theorem t66n16:T66 16=T66n16:=rfl
def X66:XC:=.seq (.ops [zx 2 (.alloc 136 [.slice none 0 0]),zx 3 (.alloc 137 [.slice none 0 0]),zx 4 (.alloc 3 [.int .i64 0])]) (.ref 16)
abbrev K66:List Nat:=[0,2,3,4,5,6,7,8,9,10,11,12,13,14,17,18,19,29,33,58]
theorem n66:Tryz.f66.ntmps=71:=by kernel_rfl
theorem r66:rvOf Tryz.prog Tryz.f66.results.toList=some [RV.cell 2 1 false,RV.cell 3 1 false,RV.cell 4 1 false]:=by kernel_rfl
theorem x66:cmpF Tryz.prog Tryz.f66=some (expand T66 18 X66):=by kernel_rfl
def T67n0:XC:=.seq (.ops [zf 28 0 9,zl 29 28,zm 6 29]) .ret
def T67n1:XC:=.seq (.ops [zf 18 6 9,zx 19 (.load [.str] false (.tmp 18)),zx 20 (.eqs .neq (.tmp 19) (.const (.string (ByteArray.mk (Array.mk []))))),zm 21 20,zh 22 21 true 7,zg 23 21 true (.fld 6 (.tmp 9)),zg 24 21 true (.load [.str] false (.tmp 23)),zg 25 21 true (.lkup .str (.int .i64 0) false (.tmp 22) (.tmp 24)),zg 26 21 true (.cmp .eql .i64 (.tmp 25) (.const (.int .i64 0))),zx 27 (.pick (.tmp 21) (.tmp 26) (.const (.bool false)))]) (.cond (.tmp 27) (.ref 0) .skip)
def T67n2:XC:=.seq (.blk 1 (.seq (.ops [zd 16 7 12 14,zx 17 (.load [.int .i64,.int .i64,.int .i64,.int .i64,.int .i64,.int .i64,.str] true (.tmp 16)),zx 9 (.alloc 145 [.int .i64 0,.int .i64 0,.int .i64 0,.int .i64 0,.int .i64 0,.int .i64 0,.string (ByteArray.mk (Array.mk []))]),zn (.store 7 (.tmp 9) (.tmp 17))]) (.ref 1))) (.ops [zp 30 14,zm 14 30])
def T67n3:XC:=.seq (.cond (.tmp 15) .skip (.exit 0)) (.ref 2)
def T67n4:XC:=.seq (.ops [zk 15 .lss 14 13]) (.ref 3)
def T67n5:XC:=.seq (.ops [zm 31 2,zm 6 31]) .ret
def T67n6:XC:=.seq (.seq (.ops [zm 12 1,ze 13 12,zx 14 (.mov (.const (.int .i64 0)))]) (.blk 0 (.loop (.ref 4)))) (.ref 5)
def T67n7:XC:=.seq (.ops [zm 10 0,zc 11 96 [.tmp 10],zm 7 11]) (.ref 6)
def T67:Nat→XC
 | 0=>T67n0
 | 1=>T67n1
 | 2=>T67n2
 | 3=>T67n3
 | 4=>T67n4
 | 5=>T67n5
 | 6=>T67n6
 | 7=>T67n7
 | _=>.skip
theorem t67n0:T67 0=T67n0:=rfl
theorem t67n1:T67 1=T67n1:=rfl
theorem t67n2:T67 2=T67n2:=rfl
theorem t67n3:T67 3=T67n3:=rfl
theorem t67n4:T67 4=T67n4:=rfl
theorem t67n5:T67 5=T67n5:=rfl
theorem t67n6:T67 6=T67n6:=rfl
theorem t67n7:T67 7=T67n7:=rfl
def X67:XC:=.seq (.ops [zx 6 (.mov (.const (.int .i64 0)))]) (.ref 7)
abbrev K67:List Nat:=[0,1,2,6,7,9,12,13,14,15,27]
theorem n67:Tryz.f67.ntmps=32:=by kernel_rfl
theorem r67:resT Tryz.f67.results.toList=some [6]:=by kernel_rfl
theorem x67:cmpF Tryz.prog Tryz.f67=some (expand T67 9 X67):=by kernel_rfl
def T92n0:XC:=.seq (.ops [zx 3 (.mkfn (.func 110) [] [.tmp 1]),zm 2 3]) .ret
def T92:Nat→XC
 | 0=>T92n0
 | _=>.skip
theorem t92n0:T92 0=T92n0:=rfl
def X92:XC:=.seq (.ops [zx 1 (.box 9 1 (.tmp 0)),zx 2 (.mov (.const .nilFunc))]) (.ref 0)
abbrev K92:List Nat:=[0,1,2]
theorem n92:Tryz.f92.ntmps=4:=by kernel_rfl
theorem r92:resT Tryz.f92.results.toList=some [2]:=by kernel_rfl
theorem x92:cmpF Tryz.prog Tryz.f92=some (expand T92 2 X92):=by kernel_rfl
def T94n0:XC:=.seq (.ops [zx 2 (.mov (.const (.bool false)))]) .ret
def T94n1:XC:=.seq (.ops [zx 2 (.mov (.const (.bool false)))]) .ret
def T94n2:XC:=.seq (.ops [zm 31 4,zx 32 (.cmp .lss .u8 (.tmp 31) (.const (.int .u8 97))),zm 33 32,zh 34 33 false 4,zg 35 33 false (.cmp .gtr .u8 (.tmp 34) (.const (.int .u8 122))),zx 36 (.pick (.tmp 33) (.const (.bool true)) (.tmp 35)),zm 37 36,zh 38 37 true 4,zg 39 37 true (.cmp .lss .u8 (.tmp 38) (.const (.int .u8 48))),zh 40 37 true 39,zh 41 40 false 4,zg 42 40 false (.cmp .gtr .u8 (.tmp 41) (.const (.int .u8 57))),zg 43 37 true (.pick (.tmp 40) (.const (.bool true)) (.tmp 42)),zx 44 (.pick (.tmp 37) (.tmp 43) (.const (.bool false))),zm 45 44,zh 46 45 true 4,zg 47 45 true (.cmp .neq .u8 (.tmp 46) (.const (.int .u8 95))),zx 48 (.pick (.tmp 45) (.tmp 47) (.const (.bool false)))]) (.cond (.tmp 48) (.ref 1) .skip)
def T94n3:XC:=.seq (.ops [zm 28 0,zm 29 3,zx 30 (.ixT (.tmp 28) (.tmp 29)),zm 4 30]) (.ref 2)
def T94n4:XC:=.seq (.blk 1 (.seq (.ops [zm 27 25,zm 3 27]) (.ref 3))) (.ops [zp 49 25,zm 25 49])
def T94n5:XC:=.seq (.cond (.tmp 26) .skip (.exit 0)) (.ref 4)
def T94n6:XC:=.seq (.ops [zk 26 .lss 25 24]) (.ref 5)
def T94n7:XC:=.seq (.ops [zm 50 0,zc 51 115 [.tmp 50],zx 52 (.not (.tmp 51)),zm 2 52]) .ret
def T94n8:XC:=.seq (.seq (.ops [zm 23 0,zx 24 (.lenT (.tmp 23)),zx 25 (.mov (.const (.int .i64 0)))]) (.blk 0 (.loop (.ref 6)))) (.ref 7)
def T94n9:XC:=.seq (.seq (.ops [zm 5 0,zx 6 (.lenT (.tmp 5)),zx 7 (.cmp .lss .i64 (.tmp 6) (.const (.int .i64 1))),zm 8 7,zh 9 8 false 0,zg 10 8 false (.lenT (.tmp 9)),zg 11 8 false (.cmp .gtr .i64 (.tmp 10) (.const (.int .i64 16))),zx 12 (.pick (.tmp 8) (.const (.bool true)) (.tmp 11)),zm 13 12,zh 14 13 false 0,zg 15 13 false (.ixT (.tmp 14) (.const (.int .i64 0))),zg 16 13 false (.cmp .lss .u8 (.tmp 15) (.const (.int .u8 97))),zx 17 (.pick (.tmp 13) (.const (.bool true)) (.tmp 16)),zm 18 17,zh 19 18 false 0,zg 20 18 false (.ixT (.tmp 19) (.const (.int .i64 0))),zg 21 18 false (.cmp .gtr .u8 (.tmp 20) (.const (.int .u8 122))),zx 22 (.pick (.tmp 18) (.const (.bool true)) (.tmp 21))]) (.cond (.tmp 22) (.ref 0) .skip)) (.ref 8)
def T94:Nat→XC
 | 0=>T94n0
 | 1=>T94n1
 | 2=>T94n2
 | 3=>T94n3
 | 4=>T94n4
 | 5=>T94n5
 | 6=>T94n6
 | 7=>T94n7
 | 8=>T94n8
 | 9=>T94n9
 | _=>.skip
theorem t94n0:T94 0=T94n0:=rfl
theorem t94n1:T94 1=T94n1:=rfl
theorem t94n2:T94 2=T94n2:=rfl
theorem t94n3:T94 3=T94n3:=rfl
theorem t94n4:T94 4=T94n4:=rfl
theorem t94n5:T94 5=T94n5:=rfl
theorem t94n6:T94 6=T94n6:=rfl
theorem t94n7:T94 7=T94n7:=rfl
theorem t94n8:T94 8=T94n8:=rfl
theorem t94n9:T94 9=T94n9:=rfl
def X94:XC:=.seq (.ops [zx 2 (.mov (.const (.bool false)))]) (.ref 9)
abbrev K94:List Nat:=[0,2,3,4,22,24,25,26,48]
theorem n94:Tryz.f94.ntmps=53:=by kernel_rfl
theorem r94:resT Tryz.f94.results.toList=some [2]:=by kernel_rfl
theorem x94:cmpF Tryz.prog Tryz.f94=some (expand T94 11 X94):=by kernel_rfl
def T95n0:XC:=.seq (.ops [zi 15 5,zn (.store 5 (.tmp 2) (.tmp 15)),zx 3 (.mov (.const (.string (ByteArray.mk (Array.mk []))))),zx 4 (.mov (.const (.bool true)))]) .ret
def T95n1:XC:=.seq (.ops [zx 28 (.build [.int .i64 0,.int .i64 0,.int .i64 0,.int .i64 0,.int .i64 0] []),zn (.store 5 (.tmp 2) (.tmp 28)),zx 3 (.mov (.const (.string (ByteArray.mk (Array.mk []))))),zx 4 (.mov (.const (.bool false)))]) .ret
def T95n2:XC:=.seq (.ops [zx 54 (.build [.int .i64 0,.int .i64 0,.int .i64 0,.int .i64 0,.int .i64 0] []),zn (.store 5 (.tmp 2) (.tmp 54)),zx 3 (.mov (.const (.string (ByteArray.mk (Array.mk []))))),zx 4 (.mov (.const (.bool false)))]) .ret
def T95n3:XC:=.seq (.ops [zi 55 5,zm 56 0,zm 57 7,zp 58 57,zx 59 (.subT (.tmp 56) (some (.tmp 58)) none),zn (.store 5 (.tmp 2) (.tmp 55)),zm 3 59,zx 4 (.mov (.const (.bool true)))]) .ret
def T95n4:XC:=.seq (.seq (.ops [zm 37 6,zx 38 (.cmp .neq .i64 (.tmp 37) (.const (.int .i64 0))),zm 39 38,zg 40 39 false (.fld 0 (.tmp 5)),zg 41 39 false (.load [.int .i64] false (.tmp 40)),.mk (some 42) (some (39,false)) (.call 118 [.tmp 41]),zg 43 39 false (.not (.tmp 42)),zx 44 (.pick (.tmp 39) (.const (.bool true)) (.tmp 43)),zm 45 44,zg 46 45 false (.load [.int .i64,.int .i64,.int .i64,.int .i64,.int .i64] true (.tmp 5)),.mk (some 47) (some (45,false)) (.call 11 [.tmp 46]),zg 48 45 false (.not (.tmp 47)),zx 49 (.pick (.tmp 45) (.const (.bool true)) (.tmp 48)),zm 50 49,zh 51 50 false 0,.mk (some 52) (some (50,false)) (.call 119 [.tmp 51,.const (.string (ByteArray.mk (Array.mk [UInt8.ofNat 114,UInt8.ofNat 97,UInt8.ofNat 119])))]),zx 53 (.pick (.tmp 50) (.const (.bool true)) (.tmp 52))]) (.cond (.tmp 53) (.ref 2) .skip)) (.ref 3)
def T95n5:XC:=.seq (.ops [zm 30 0,zm 31 7,zx 32 (.subT (.tmp 30) none (some (.tmp 31))),zx 33 (.cat (.tmp 32) (.const (.string (ByteArray.mk (Array.mk [UInt8.ofNat 32,UInt8.ofNat 48]))))),zc 34 116 [.tmp 33],zm 29 34,zy 35 29 0,zy 36 29 1,zn (.store 5 (.tmp 5) (.tmp 35)),zm 6 36]) (.ref 4)
def T95n6:XC:=.seq (.seq (.ops [zm 18 7,zx 19 (.cmp .lss .i64 (.tmp 18) (.const (.int .i64 0))),zm 20 19,zh 21 20 false 0,zh 22 20 false 7,zg 23 20 false (.arith .add .i64 (.tmp 22) (.const (.int .i64 1))),zg 24 20 false (.subT (.tmp 21) (some (.tmp 23)) none),.mk (some 25) (some (20,false)) (.call 94 [.tmp 24]),zg 26 20 false (.not (.tmp 25)),zx 27 (.pick (.tmp 20) (.const (.bool true)) (.tmp 26))]) (.cond (.tmp 27) (.ref 1) .skip)) (.ref 5)
def T95n7:XC:=.seq (.ops [zm 16 0,zc 17 117 [.tmp 16,.const (.int .u8 32)],zm 7 17]) (.ref 6)
def T95n8:XC:=.seq (.seq (.ops [zm 13 6,zx 14 (.cmp .eql .i64 (.tmp 13) (.const (.int .i64 0)))]) (.cond (.tmp 14) (.ref 0) .skip)) (.ref 7)
def T95n9:XC:=.seq (.ops [zm 9 0,zc 10 116 [.tmp 9],zm 8 10,zy 11 8 0,zy 12 8 1,zx 5 (.alloc 47 [.int .i64 0,.int .i64 0,.int .i64 0,.int .i64 0,.int .i64 0]),zn (.store 5 (.tmp 5) (.tmp 11)),zm 6 12]) (.ref 8)
def T95:Nat→XC
 | 0=>T95n0
 | 1=>T95n1
 | 2=>T95n2
 | 3=>T95n3
 | 4=>T95n4
 | 5=>T95n5
 | 6=>T95n6
 | 7=>T95n7
 | 8=>T95n8
 | 9=>T95n9
 | _=>.skip
theorem t95n0:T95 0=T95n0:=rfl
theorem t95n1:T95 1=T95n1:=rfl
theorem t95n2:T95 2=T95n2:=rfl
theorem t95n3:T95 3=T95n3:=rfl
theorem t95n4:T95 4=T95n4:=rfl
theorem t95n5:T95 5=T95n5:=rfl
theorem t95n6:T95 6=T95n6:=rfl
theorem t95n7:T95 7=T95n7:=rfl
theorem t95n8:T95 8=T95n8:=rfl
theorem t95n9:T95 9=T95n9:=rfl
def X95:XC:=.seq (.ops [zx 2 (.alloc 47 [.int .i64 0,.int .i64 0,.int .i64 0,.int .i64 0,.int .i64 0]),zx 3 (.mov (.const (.string (ByteArray.mk (Array.mk []))))),zx 4 (.mov (.const (.bool false)))]) (.ref 9)
abbrev K95:List Nat:=[0,2,3,4,5,6,7,14,27,53]
theorem n95:Tryz.f95.ntmps=60:=by kernel_rfl
theorem r95:rvOf Tryz.prog Tryz.f95.results.toList=some [RV.cell 2 5 true,RV.tmp 3,RV.tmp 4]:=by kernel_rfl
theorem x95:cmpF Tryz.prog Tryz.f95=some (expand T95 11 X95):=by kernel_rfl
def T96n0:XC:=.ops [zx 23 (.load [.map] false (.tmp 3)),zm 24 6,zn (.mupd .str (.tmp 23) (.tmp 24) (.const (.int .i64 1)))]
def T96n1:XC:=.seq (.ops [zm 18 7,zm 19 18,zh 20 19 true 6,.mk (some 21) (some (19,true)) (.call 94 [.tmp 20]),zx 22 (.pick (.tmp 19) (.tmp 21) (.const (.bool false)))]) (.cond (.tmp 22) (.ref 0) .skip)
def T96n2:XC:=.blk 1 (.seq (.ops [zm 14 5,.mk (some 15) none (.call 93 [.tmp 14,.const (.string (ByteArray.mk (Array.mk [UInt8.ofNat 58])))]),zm 13 15,zy 16 13 0,zy 17 13 1,zm 6 16,zm 7 17]) (.ref 1))
def T96n3:XC:=.blk 0 (.rng (.tmp 10) [11,12] (.ops [zm 5 12]) (.ref 2))
def T96n4:XC:=.seq (.ops [zx 25 (.load [.map] false (.tmp 3)),zm 2 25]) .ret
def T96n5:XC:=.seq (.seq (.ops [zm 9 0,zc 10 92 [.tmp 9]]) (.ref 3)) (.ref 4)
def T96n6:XC:=.seq (.ops [.mk (some 8) none (.k .mkmap),zx 3 (.alloc 141 [.map none]),zn (.store 1 (.tmp 3) (.tmp 8))]) (.ref 5)
def T96:Nat→XC
 | 0=>T96n0
 | 1=>T96n1
 | 2=>T96n2
 | 3=>T96n3
 | 4=>T96n4
 | 5=>T96n5
 | 6=>T96n6
 | _=>.skip
theorem t96n0:T96 0=T96n0:=rfl
theorem t96n1:T96 1=T96n1:=rfl
theorem t96n2:T96 2=T96n2:=rfl
theorem t96n3:T96 3=T96n3:=rfl
theorem t96n4:T96 4=T96n4:=rfl
theorem t96n5:T96 5=T96n5:=rfl
theorem t96n6:T96 6=T96n6:=rfl
def X96:XC:=.seq (.ops [zx 2 (.mov (.const (.map none)))]) (.ref 6)
abbrev K96:List Nat:=[0,2,3,5,6,7,10,12,22]
theorem n96:Tryz.f96.ntmps=26:=by kernel_rfl
theorem r96:resT Tryz.f96.results.toList=some [2]:=by kernel_rfl
theorem x96:cmpF Tryz.prog Tryz.f96=some (expand T96 8 X96):=by kernel_rfl
def T110n0:XC:=.seq (.ops [zm 23 0,zm 24 3,zp 25 24,zm 26 4,.mk (some 27) none (.callv (.tmp 23) [.tmp 25,.tmp 26]),zx 28 (.not (.tmp 27))]) (.cond (.tmp 28) .ret .skip)
def T110n1:XC:=.seq (.seq (.ops [zm 21 4,zx 22 (.eqs .eql (.tmp 21) (.const (.string (ByteArray.mk (Array.mk [])))))]) (.cond (.tmp 22) (.exit 1) .skip)) (.ref 0)
def T110n2:XC:=.seq (.ops [zm 19 4,.mk (some 20) none (.call 113 [.tmp 19,.const (.string (ByteArray.mk (Array.mk [UInt8.ofNat 32,UInt8.ofNat 9])))]),zm 4 20]) (.ref 1)
def T110n3:XC:=.seq (.ops [zm 14 4,.mk (some 15) none (.call 112 [.tmp 14,.const (.string (ByteArray.mk (Array.mk [UInt8.ofNat 59])))]),zm 13 15,zy 16 13 0,zy 17 13 1,zy 18 13 2,zm 4 16]) (.ref 2)
def T110n4:XC:=.seq (.blk 1 (.seq (.ops [zm 10 8,zd 11 1 6 8,zx 12 (.load [.str] false (.tmp 11)),zm 3 10,zm 4 12]) (.ref 3))) (.ops [zp 29 8,zm 8 29])
def T110n5:XC:=.seq (.cond (.tmp 9) .skip (.exit 0)) (.ref 4)
def T110n6:XC:=.seq (.ops [zk 9 .lss 8 7]) (.ref 5)
def T110n7:XC:=.seq (.ops [zx 5 (.load [.str] false (.tmp 1)),.mk (some 6) none (.call 111 [.tmp 5,.const (.string (ByteArray.mk (Array.mk [UInt8.ofNat 10])))]),ze 7 6,zx 8 (.mov (.const (.int .i64 0)))]) (.blk 0 (.loop (.ref 6)))
def T110:Nat→XC
 | 0=>T110n0
 | 1=>T110n1
 | 2=>T110n2
 | 3=>T110n3
 | 4=>T110n4
 | 5=>T110n5
 | 6=>T110n6
 | 7=>T110n7
 | _=>.skip
theorem t110n0:T110 0=T110n0:=rfl
theorem t110n1:T110 1=T110n1:=rfl
theorem t110n2:T110 2=T110n2:=rfl
theorem t110n3:T110 3=T110n3:=rfl
theorem t110n4:T110 4=T110n4:=rfl
theorem t110n5:T110 5=T110n5:=rfl
theorem t110n6:T110 6=T110n6:=rfl
theorem t110n7:T110 7=T110n7:=rfl
def X110:XC:=.scp (.seq (.lab) (.ref 7))
abbrev K110:List Nat:=[0,1,3,4,6,7,8,9,22,28]
theorem n110:Tryz.f110.ntmps=30:=by kernel_rfl
theorem r110:resT Tryz.f110.results.toList=some []:=by kernel_rfl
theorem x110:cmpF Tryz.prog Tryz.f110=some (expand T110 9 X110):=by kernel_rfl
def T115n0:XC:=.seq (.ops [zx 2 (.mov (.const (.bool true)))]) .ret
def T115n1:XC:=.seq (.ops [zx 2 (.mov (.const (.bool true)))]) .ret
def T115n2:XC:=.seq (.ops [zm 21 4,zm 22 0,zx 23 (.eqs .eql (.tmp 21) (.tmp 22))]) (.cond (.tmp 23) (.ref 1) .skip)
def T115n3:XC:=.ops [zm 11 3,zp 12 11,zm 3 12]
def T115n4:XC:=.seq (.blk 1 (.seq (.ops [zm 14 3,zx 15 (.build [.int .i64 0,.int .i64 0,.int .i64 0,.int .i64 0,.int .i64 0] [(0,1,.tmp 14)]),zc 16 139 [.tmp 15],.mk (some 17) none (.call 112 [.tmp 16,.const (.string (ByteArray.mk (Array.mk [UInt8.ofNat 32])))]),zm 13 17,zy 18 13 0,zy 19 13 1,zy 20 13 2,zm 4 18,zm 5 19,zm 6 20]) (.ref 2))) (.ref 3)
def T115n5:XC:=.seq (.seq (.ops [zm 9 3,zx 10 (.cmp .leq .i64 (.tmp 9) (.const (.int .i64 18)))]) (.cond (.tmp 10) .skip (.exit 0))) (.ref 4)
def T115n6:XC:=.seq (.ops [zx 2 (.mov (.const (.bool false)))]) .ret
def T115n7:XC:=.seq (.seq (.ops [zx 3 (.mov (.const (.int .i64 1)))]) (.blk 0 (.loop (.ref 5)))) (.ref 6)
def T115n8:XC:=.seq (.seq (.ops [zm 7 0,zx 8 (.eqs .eql (.tmp 7) (.const (.string (ByteArray.mk (Array.mk [UInt8.ofNat 114,UInt8.ofNat 97,UInt8.ofNat 119])))))]) (.cond (.tmp 8) (.ref 0) .skip)) (.ref 7)
def T115:Nat→XC
 | 0=>T115n0
 | 1=>T115n1
 | 2=>T115n2
 | 3=>T115n3
 | 4=>T115n4
 | 5=>T115n5
 | 6=>T115n6
 | 7=>T115n7
 | 8=>T115n8
 | _=>.skip
theorem t115n0:T115 0=T115n0:=rfl
theorem t115n1:T115 1=T115n1:=rfl
theorem t115n2:T115 2=T115n2:=rfl
theorem t115n3:T115 3=T115n3:=rfl
theorem t115n4:T115 4=T115n4:=rfl
theorem t115n5:T115 5=T115n5:=rfl
theorem t115n6:T115 6=T115n6:=rfl
theorem t115n7:T115 7=T115n7:=rfl
theorem t115n8:T115 8=T115n8:=rfl
def X115:XC:=.seq (.ops [zx 2 (.mov (.const (.bool false)))]) (.ref 8)
abbrev K115:List Nat:=[0,2,3,4,8,10,23]
theorem n115:Tryz.f115.ntmps=24:=by kernel_rfl
theorem r115:resT Tryz.f115.results.toList=some [2]:=by kernel_rfl
theorem x115:cmpF Tryz.prog Tryz.f115=some (expand T115 10 X115):=by kernel_rfl
def T118n0:XC:=.seq (.ops [zm 3 0,zx 4 (.cmp .eql .i64 (.tmp 3) (.const (.int .i64 13))),zm 5 4,zh 6 5 false 0,zg 7 5 false (.cmp .eql .i64 (.tmp 6) (.const (.int .i64 14))),zx 8 (.pick (.tmp 5) (.const (.bool true)) (.tmp 7)),zm 9 8,zh 10 9 false 0,zg 11 9 false (.cmp .eql .i64 (.tmp 10) (.const (.int .i64 15))),zx 12 (.pick (.tmp 9) (.const (.bool true)) (.tmp 11)),zm 13 12,zh 14 13 false 0,zg 15 13 false (.cmp .eql .i64 (.tmp 14) (.const (.int .i64 16))),zx 16 (.pick (.tmp 13) (.const (.bool true)) (.tmp 15)),zm 2 16]) .ret
def T118:Nat→XC
 | 0=>T118n0
 | _=>.skip
theorem t118n0:T118 0=T118n0:=rfl
def X118:XC:=.seq (.ops [zx 2 (.mov (.const (.bool false)))]) (.ref 0)
abbrev K118:List Nat:=[0,2]
theorem n118:Tryz.f118.ntmps=17:=by kernel_rfl
theorem r118:resT Tryz.f118.results.toList=some [2]:=by kernel_rfl
theorem x118:cmpF Tryz.prog Tryz.f118=some (expand T118 2 X118):=by kernel_rfl
attribute [go_sem] t40n0 t40n1 t40n2 t40n3 t40n4 t40n5 t40n6 t40n7 t40n8 t40n9 t40n10 t40n11 t40n12 t40n13 t40n14 t40n15 t40n16 t40n17 t40n18 T40n0 T40n1 T40n2 T40n3 T40n4 T40n5 T40n6 T40n7 T40n8 T40n9 T40n10 T40n11 T40n12 T40n13 T40n14 T40n15 T40n16 T40n17 T40n18 X40
attribute [go_sem] t66n0 t66n1 t66n2 t66n3 t66n4 t66n5 t66n6 t66n7 t66n8 t66n9 t66n10 t66n11 t66n12 t66n13 t66n14 t66n15 t66n16 T66n0 T66n1 T66n2 T66n3 T66n4 T66n5 T66n6 T66n7 T66n8 T66n9 T66n10 T66n11 T66n12 T66n13 T66n14 T66n15 T66n16 X66
attribute [go_sem] t67n0 t67n1 t67n2 t67n3 t67n4 t67n5 t67n6 t67n7 T67n0 T67n1 T67n2 T67n3 T67n4 T67n5 T67n6 T67n7 X67
attribute [go_sem] t92n0 T92n0 X92
attribute [go_sem] t94n0 t94n1 t94n2 t94n3 t94n4 t94n5 t94n6 t94n7 t94n8 t94n9 T94n0 T94n1 T94n2 T94n3 T94n4 T94n5 T94n6 T94n7 T94n8 T94n9 X94
attribute [go_sem] t95n0 t95n1 t95n2 t95n3 t95n4 t95n5 t95n6 t95n7 t95n8 t95n9 T95n0 T95n1 T95n2 T95n3 T95n4 T95n5 T95n6 T95n7 T95n8 T95n9 X95
attribute [go_sem] t96n0 t96n1 t96n2 t96n3 t96n4 t96n5 t96n6 T96n0 T96n1 T96n2 T96n3 T96n4 T96n5 T96n6 X96
attribute [go_sem] t110n0 t110n1 t110n2 t110n3 t110n4 t110n5 t110n6 t110n7 T110n0 T110n1 T110n2 T110n3 T110n4 T110n5 T110n6 T110n7 X110
attribute [go_sem] t115n0 t115n1 t115n2 t115n3 t115n4 t115n5 t115n6 t115n7 t115n8 T115n0 T115n1 T115n2 T115n3 T115n4 T115n5 T115n6 T115n7 T115n8 X115
attribute [go_sem] t118n0 T118n0 X118
end Go.Proofs.YtgghmmjoplddbaaGreatDoor
