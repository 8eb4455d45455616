/- Printed by program: the small code of functions, and that it is theirs. -/
import Derived.Test.YtaiajnehnjnadaaGreatDoorSxStill
import Derived.Test.YtaiajnehnjnadaaGreatDoorProg
import Derived.KernelRfl
set_option linter.unusedSimpArgs false
set_option linter.unusedVariables false
set_option linter.unnecessarySimpa false
namespace Go.Proofs.YtaiajnehnjnadaaGreatDoor
open Go Go.Sx
set_option maxRecDepth 100000
def T4n0:XC:=.seq (.ops [zm 27 8,zx 2 (.mov (.const (.slice none 0 0))),zm 3 27,zx 4 (.mov (.const (.int .i64 150)))]) .ret
def T4n1:XC:=.seq (.ops [zm 25 8,zx 26 (.cmp .gtr .i64 (.tmp 25) (.const (.int .i64 0)))]) (.cond (.tmp 26) (.ref 0) .skip)
def T4n2:XC:=.ops [zm 35 9,zf 36 0 11,zx 37 (.load [.str] false (.tmp 36)),zf 38 1 11,zl 39 38,zn (.mupd .str (.tmp 35) (.tmp 37) (.tmp 39))]
def T4n3:XC:=.seq (.blk 1 (.seq (.ops [zd 33 2 29 31,zx 34 (.load [.str,.int .i64] true (.tmp 33)),zx 11 (.alloc 34 [.string (ByteArray.mk (Array.mk [])),.int .i64 0]),zn (.store 2 (.tmp 11) (.tmp 34))]) (.ref 2))) (.ops [zp 40 31,zm 31 40])
def T4n4:XC:=.seq (.cond (.tmp 32) .skip (.exit 0)) (.ref 3)
def T4n5:XC:=.seq (.ops [zk 32 .lss 31 30]) (.ref 4)
def T4n6:XC:=.ops [zm 50 9,zf 51 6 14,zx 52 (.load [.str] false (.tmp 51)),zx 53 (.lkup .str (.int .i64 0) false (.tmp 50) (.tmp 52)),zf 54 1 14,zf 55 4 54,zn (.store 1 (.tmp 55) (.tmp 53))]
def T4n7:XC:=.ops [zm 56 12,zf 57 1 14,zi 58 57,zx 59 (.buildS 43 1 5 [.int .i64 0,.int .i64 0,.int .i64 0,.int .i64 0,.int .i64 0] [(0,.tmp 58)]),zx 60 (.app 43 5 40 (.tmp 56) (.tmp 59)),zm 12 60]
def T4n8:XC:=.seq (.seq (.ops [zf 47 6 14,zx 48 (.load [.str] false (.tmp 47)),zx 49 (.eqs .neq (.tmp 48) (.const (.string (ByteArray.mk (Array.mk [])))))]) (.cond (.tmp 49) (.ref 6) .skip)) (.ref 7)
def T4n9:XC:=.seq (.blk 3 (.seq (.ops [zd 45 7 41 43,zx 46 (.load [.int .i64,.int .i64,.int .i64,.int .i64,.int .i64,.int .i64,.str] true (.tmp 45)),zx 14 (.alloc 45 [.int .i64 0,.int .i64 0,.int .i64 0,.int .i64 0,.int .i64 0,.int .i64 0,.string (ByteArray.mk (Array.mk []))]),zn (.store 7 (.tmp 14) (.tmp 46))]) (.ref 8))) (.ops [zp 61 43,zm 43 61])
def T4n10:XC:=.seq (.cond (.tmp 44) .skip (.exit 2)) (.ref 9)
def T4n11:XC:=.seq (.ops [zk 44 .lss 43 42]) (.ref 10)
def T4n12:XC:=.seq (.ops [zm 62 12,zm 2 62,zx 3 (.mov (.const (.int .i64 0))),zx 4 (.mov (.const (.int .i64 0)))]) .ret
def T4n13:XC:=.seq (.seq (.ops [zm 41 5,ze 42 41,zx 43 (.mov (.const (.int .i64 0)))]) (.blk 2 (.loop (.ref 11)))) (.ref 12)
def T4n14:XC:=.seq (.ops [zx 12 (.mov (.const (.slice none 0 0)))]) (.ref 13)
def T4n15:XC:=.seq (.seq (.ops [zm 29 6,ze 30 29,zx 31 (.mov (.const (.int .i64 0)))]) (.blk 0 (.loop (.ref 5)))) (.ref 14)
def T4n16:XC:=.seq (.ops [.mk (some 28) none (.k .mkmap),zm 9 28]) (.ref 15)
def T4n17:XC:=.seq (.seq (.ops [zm 21 0,zm 22 5,zm 23 7,zc 24 9 [.tmp 21,.tmp 22,.tmp 23],zm 8 24]) (.ref 1)) (.ref 16)
def T4n18:XC:=.seq (.ops [zm 16 0,zc 17 8 [.tmp 16],zm 15 17,zy 18 15 0,zy 19 15 1,zy 20 15 2,zm 5 18,zm 6 19,zm 7 20]) (.ref 17)
def T4:Nat→XC
 | 0=>T4n0
 | 1=>T4n1
 | 2=>T4n2
 | 3=>T4n3
 | 4=>T4n4
 | 5=>T4n5
 | 6=>T4n6
 | 7=>T4n7
 | 8=>T4n8
 | 9=>T4n9
 | 10=>T4n10
 | 11=>T4n11
 | 12=>T4n12
 | 13=>T4n13
 | 14=>T4n14
 | 15=>T4n15
 | 16=>T4n16
 | 17=>T4n17
 | 18=>T4n18
 | _=>.skip
theorem t4n0:T4 0=T4n0:=rfl
theorem t4n1:T4 1=T4n1:=rfl
theorem t4n2:T4 2=T4n2:=rfl
theorem t4n3:T4 3=T4n3:=rfl
theorem t4n4:T4 4=T4n4:=rfl
theorem t4n5:T4 5=T4n5:=rfl
theorem t4n6:T4 6=T4n6:=rfl
theorem t4n7:T4 7=T4n7:=rfl
theorem t4n8:T4 8=T4n8:=rfl
theorem t4n9:T4 9=T4n9:=rfl
theorem t4n10:T4 10=T4n10:=rfl
theorem t4n11:T4 11=T4n11:=rfl
theorem t4n12:T4 12=T4n12:=rfl
theorem t4n13:T4 13=T4n13:=rfl
theorem t4n14:T4 14=T4n14:=rfl
theorem t4n15:T4 15=T4n15:=rfl
theorem t4n16:T4 16=T4n16:=rfl
theorem t4n17:T4 17=T4n17:=rfl
theorem t4n18:T4 18=T4n18:=rfl
def X4:XC:=.seq (.ops [zx 2 (.mov (.const (.slice none 0 0))),zx 3 (.mov (.const (.int .i64 0))),zx 4 (.mov (.const (.int .i64 0)))]) (.ref 18)
abbrev K4:List Nat:=[0,2,3,4,5,6,7,8,9,11,12,14,26,29,30,31,32,41,42,43,44,49]
theorem n4:Tryz.f4.ntmps=63:=by kernel_rfl
theorem r4:resT Tryz.f4.results.toList=some [2,3,4]:=by kernel_rfl
theorem x4:cmpF Tryz.prog Tryz.f4=some (expand T4 20 X4):=by kernel_rfl
def T8n0:XC:=.seq (.ops [zm 8 18]) (.ops [zm 9 19])
def T8n1:XC:=.seq (.ops [zx 34 (.load [.slc] false (.tmp 5)),zx 35 (.load [.slc] false (.tmp 6)),zm 36 8,zn (.store 1 (.tmp 2) (.tmp 34)),.mk none none (.still 35 (.load [.slc] false (.tmp 6))),zn (.store 1 (.tmp 3) (.tmp 35)),zn (.store 1 (.tmp 4) (.tmp 36))]) .ret
def T8n2:XC:=.seq (.ops [zx 39 (.load [.slc] false (.tmp 6)),zm 40 10,zx 41 (.load [.slc] false (.tmp 5)),ze 42 41,zx 43 (.build [.string (ByteArray.mk (Array.mk [])),.int .i64 0] [(0,1,.tmp 40),(1,1,.tmp 42)]),zx 44 (.buildS 34 1 2 [.string (ByteArray.mk (Array.mk [])),.int .i64 0] [(0,.tmp 43)]),zx 45 (.app 34 2 24 (.tmp 39) (.tmp 44)),zn (.store 1 (.tmp 6) (.tmp 45))]) (.exit 1)
def T8n3:XC:=.seq (.ops [zx 37 (.load [.map] false (.tmp 7)),zm 38 10,zn (.mupd .str (.tmp 37) (.tmp 38) (.const (.int .i64 1)))]) (.ref 2)
def T8n4:XC:=.seq (.seq (.ops [zx 30 (.load [.map] false (.tmp 7)),zm 31 10,zx 32 (.lkup .str (.int .i64 0) false (.tmp 30) (.tmp 31)),zx 33 (.cmp .gtr .i64 (.tmp 32) (.const (.int .i64 0)))]) (.cond (.tmp 33) (.ref 1) .skip)) (.ref 3)
def T8n5:XC:=.seq (.ops [zm 25 11,zm 26 25,zh 27 26 true 10,.mk (some 28) (some (26,true)) (.call 17 [.tmp 27]),zx 29 (.pick (.tmp 26) (.tmp 28) (.const (.bool false)))]) (.cond (.tmp 29) (.ref 4) .skip)
def T8n6:XC:=.seq (.ops [zx 59 (.load [.slc] false (.tmp 5)),zx 60 (.load [.slc] false (.tmp 6)),zm 61 8,zn (.store 1 (.tmp 2) (.tmp 59)),.mk none none (.still 60 (.load [.slc] false (.tmp 6))),zn (.store 1 (.tmp 3) (.tmp 60)),zn (.store 1 (.tmp 4) (.tmp 61))]) .ret
def T8n7:XC:=.ops [zx 62 (.load [.slc] false (.tmp 5)),zm 63 8,zi 64 12,zm 65 13,zx 66 (.build [.int .i64 0,.int .i64 0,.int .i64 0,.int .i64 0,.int .i64 0,.int .i64 0,.string (ByteArray.mk (Array.mk []))] [(0,1,.tmp 63),(1,5,.tmp 64),(6,1,.tmp 65)]),zx 67 (.buildS 45 1 7 [.int .i64 0,.int .i64 0,.int .i64 0,.int .i64 0,.int .i64 0,.int .i64 0,.string (ByteArray.mk (Array.mk []))] [(0,.tmp 66)]),zx 68 (.app 45 7 64 (.tmp 62) (.tmp 67)),zn (.store 1 (.tmp 5) (.tmp 68))]
def T8n8:XC:=.seq (.seq (.ops [zm 52 14,zx 53 (.not (.tmp 52)),zm 54 53,zg 55 54 false (.load [.slc] false (.tmp 5)),zg 56 54 false (.lenS (.tmp 55)),zg 57 54 false (.cmp .geq .i64 (.tmp 56) (.const (.int .i64 1024))),zx 58 (.pick (.tmp 54) (.const (.bool true)) (.tmp 57))]) (.cond (.tmp 58) (.ref 6) .skip)) (.ref 7)
def T8n9:XC:=.seq (.ops [zm 47 9,zc 48 18 [.tmp 47],zm 46 48,zy 49 46 0,zy 50 46 1,zy 51 46 2,zx 12 (.alloc 43 [.int .i64 0,.int .i64 0,.int .i64 0,.int .i64 0,.int .i64 0]),zn (.store 5 (.tmp 12) (.tmp 49)),zm 13 50,zm 14 51]) (.ref 8)
def T8n10:XC:=.blk 1 (.seq (.seq (.ops [zm 21 9,.mk (some 22) none (.call 16 [.tmp 21,.const (.string (ByteArray.mk (Array.mk [UInt8.ofNat 58])))]),zm 20 22,zy 23 20 0,zy 24 20 1,zm 10 23,zm 11 24]) (.ref 5)) (.ref 9))
def T8n11:XC:=.blk 0 (.rng (.tmp 17) [18,19] (.ref 0) (.ref 10))
def T8n12:XC:=.seq (.ops [zx 69 (.load [.slc] false (.tmp 5)),zx 70 (.load [.slc] false (.tmp 6)),zn (.store 1 (.tmp 2) (.tmp 69)),.mk none none (.still 70 (.load [.slc] false (.tmp 6))),zn (.store 1 (.tmp 3) (.tmp 70)),zn (.store 1 (.tmp 4) (.const (.int .i64 0)))]) .ret
def T8n13:XC:=.seq (.seq (.ops [zm 16 0,zc 17 15 [.tmp 16]]) (.ref 11)) (.ref 12)
def T8n14:XC:=.seq (.ops [.mk (some 15) none (.k .mkmap),zx 7 (.alloc 41 [.map none]),zn (.store 1 (.tmp 7) (.tmp 15))]) (.ref 13)
def T8n15:XC:=.seq (.ops [zx 6 (.alloc 26 [.slice none 0 0])]) (.ref 14)
def T8n16:XC:=.seq (.ops [zx 5 (.alloc 37 [.slice none 0 0])]) (.ref 15)
def T8:Nat→XC
 | 0=>T8n0
 | 1=>T8n1
 | 2=>T8n2
 | 3=>T8n3
 | 4=>T8n4
 | 5=>T8n5
 | 6=>T8n6
 | 7=>T8n7
 | 8=>T8n8
 | 9=>T8n9
 | 10=>T8n10
 | 11=>T8n11
 | 12=>T8n12
 | 13=>T8n13
 | 14=>T8n14
 | 15=>T8n15
 | 16=>T8n16
 | _=>.skip
theorem t8n0:T8 0=T8n0:=rfl
theorem t8n1:T8 1=T8n1:=rfl
theorem t8n2:T8 2=T8n2:=rfl
theorem t8n3:T8 3=T8n3:=rfl
theorem t8n4:T8 4=T8n4:=rfl
theorem t8n5:T8 5=T8n5:=rfl
theorem t8n6:T8 6=T8n6:=rfl
theorem t8n7:T8 7=T8n7:=rfl
theorem t8n8:T8 8=T8n8:=rfl
theorem t8n9:T8 9=T8n9:=rfl
theorem t8n10:T8 10=T8n10:=rfl
theorem t8n11:T8 11=T8n11:=rfl
theorem t8n12:T8 12=T8n12:=rfl
theorem t8n13:T8 13=T8n13:=rfl
theorem t8n14:T8 14=T8n14:=rfl
theorem t8n15:T8 15=T8n15:=rfl
theorem t8n16:T8 16=T8n16:=rfl
def X8:XC:=.seq (.ops [zx 2 (.alloc 37 [.slice none 0 0]),zx 3 (.alloc 26 [.slice none 0 0]),zx 4 (.alloc 3 [.int .i64 0])]) (.ref 16)
abbrev K8:List Nat:=[0,2,3,4,5,6,7,8,9,10,11,12,13,14,17,18,19,29,33,58]
theorem n8:Tryz.f8.ntmps=71:=by kernel_rfl
theorem r8:rvOf Tryz.prog Tryz.f8.results.toList=some [RV.cell 2 1 false,RV.cell 3 1 false,RV.cell 4 1 false]:=by kernel_rfl
theorem x8:cmpF Tryz.prog Tryz.f8=some (expand T8 18 X8):=by kernel_rfl
def T9n0:XC:=.seq (.ops [zf 28 0 9,zl 29 28,zm 6 29]) .ret
def T9n1:XC:=.seq (.ops [zf 18 6 9,zx 19 (.load [.str] false (.tmp 18)),zx 20 (.eqs .neq (.tmp 19) (.const (.string (ByteArray.mk (Array.mk []))))),zm 21 20,zh 22 21 true 7,zg 23 21 true (.fld 6 (.tmp 9)),zg 24 21 true (.load [.str] false (.tmp 23)),zg 25 21 true (.lkup .str (.int .i64 0) false (.tmp 22) (.tmp 24)),zg 26 21 true (.cmp .eql .i64 (.tmp 25) (.const (.int .i64 0))),zx 27 (.pick (.tmp 21) (.tmp 26) (.const (.bool false)))]) (.cond (.tmp 27) (.ref 0) .skip)
def T9n2:XC:=.seq (.blk 1 (.seq (.ops [zd 16 7 12 14,zx 17 (.load [.int .i64,.int .i64,.int .i64,.int .i64,.int .i64,.int .i64,.str] true (.tmp 16)),zx 9 (.alloc 45 [.int .i64 0,.int .i64 0,.int .i64 0,.int .i64 0,.int .i64 0,.int .i64 0,.string (ByteArray.mk (Array.mk []))]),zn (.store 7 (.tmp 9) (.tmp 17))]) (.ref 1))) (.ops [zp 30 14,zm 14 30])
def T9n3:XC:=.seq (.cond (.tmp 15) .skip (.exit 0)) (.ref 2)
def T9n4:XC:=.seq (.ops [zk 15 .lss 14 13]) (.ref 3)
def T9n5:XC:=.seq (.ops [zm 31 2,zm 6 31]) .ret
def T9n6:XC:=.seq (.seq (.ops [zm 12 1,ze 13 12,zx 14 (.mov (.const (.int .i64 0)))]) (.blk 0 (.loop (.ref 4)))) (.ref 5)
def T9n7:XC:=.seq (.ops [zm 10 0,zc 11 19 [.tmp 10],zm 7 11]) (.ref 6)
def T9:Nat→XC
 | 0=>T9n0
 | 1=>T9n1
 | 2=>T9n2
 | 3=>T9n3
 | 4=>T9n4
 | 5=>T9n5
 | 6=>T9n6
 | 7=>T9n7
 | _=>.skip
theorem t9n0:T9 0=T9n0:=rfl
theorem t9n1:T9 1=T9n1:=rfl
theorem t9n2:T9 2=T9n2:=rfl
theorem t9n3:T9 3=T9n3:=rfl
theorem t9n4:T9 4=T9n4:=rfl
theorem t9n5:T9 5=T9n5:=rfl
theorem t9n6:T9 6=T9n6:=rfl
theorem t9n7:T9 7=T9n7:=rfl
def X9:XC:=.seq (.ops [zx 6 (.mov (.const (.int .i64 0)))]) (.ref 7)
abbrev K9:List Nat:=[0,1,2,6,7,9,12,13,14,15,27]
theorem n9:Tryz.f9.ntmps=32:=by kernel_rfl
theorem r9:resT Tryz.f9.results.toList=some [6]:=by kernel_rfl
theorem x9:cmpF Tryz.prog Tryz.f9=some (expand T9 9 X9):=by kernel_rfl
def T15n0:XC:=.seq (.ops [zx 3 (.mkfn (.func 24) [] [.tmp 1]),zm 2 3]) .ret
def T15:Nat→XC
 | 0=>T15n0
 | _=>.skip
theorem t15n0:T15 0=T15n0:=rfl
def X15:XC:=.seq (.ops [zx 1 (.box 9 1 (.tmp 0)),zx 2 (.mov (.const .nilFunc))]) (.ref 0)
abbrev K15:List Nat:=[0,1,2]
theorem n15:Tryz.f15.ntmps=4:=by kernel_rfl
theorem r15:resT Tryz.f15.results.toList=some [2]:=by kernel_rfl
theorem x15:cmpF Tryz.prog Tryz.f15=some (expand T15 2 X15):=by kernel_rfl
def T17n0:XC:=.seq (.ops [zx 2 (.mov (.const (.bool false)))]) .ret
def T17n1:XC:=.seq (.ops [zx 2 (.mov (.const (.bool false)))]) .ret
def T17n2:XC:=.seq (.ops [zm 31 4,zx 32 (.cmp .lss .u8 (.tmp 31) (.const (.int .u8 97))),zm 33 32,zh 34 33 false 4,zg 35 33 false (.cmp .gtr .u8 (.tmp 34) (.const (.int .u8 122))),zx 36 (.pick (.tmp 33) (.const (.bool true)) (.tmp 35)),zm 37 36,zh 38 37 true 4,zg 39 37 true (.cmp .lss .u8 (.tmp 38) (.const (.int .u8 48))),zh 40 37 true 39,zh 41 40 false 4,zg 42 40 false (.cmp .gtr .u8 (.tmp 41) (.const (.int .u8 57))),zg 43 37 true (.pick (.tmp 40) (.const (.bool true)) (.tmp 42)),zx 44 (.pick (.tmp 37) (.tmp 43) (.const (.bool false))),zm 45 44,zh 46 45 true 4,zg 47 45 true (.cmp .neq .u8 (.tmp 46) (.const (.int .u8 95))),zx 48 (.pick (.tmp 45) (.tmp 47) (.const (.bool false)))]) (.cond (.tmp 48) (.ref 1) .skip)
def T17n3:XC:=.seq (.ops [zm 28 0,zm 29 3,zx 30 (.ixT (.tmp 28) (.tmp 29)),zm 4 30]) (.ref 2)
def T17n4:XC:=.seq (.blk 1 (.seq (.ops [zm 27 25,zm 3 27]) (.ref 3))) (.ops [zp 49 25,zm 25 49])
def T17n5:XC:=.seq (.cond (.tmp 26) .skip (.exit 0)) (.ref 4)
def T17n6:XC:=.seq (.ops [zk 26 .lss 25 24]) (.ref 5)
def T17n7:XC:=.seq (.ops [zm 50 0,zc 51 29 [.tmp 50],zx 52 (.not (.tmp 51)),zm 2 52]) .ret
def T17n8:XC:=.seq (.seq (.ops [zm 23 0,zx 24 (.lenT (.tmp 23)),zx 25 (.mov (.const (.int .i64 0)))]) (.blk 0 (.loop (.ref 6)))) (.ref 7)
def T17n9:XC:=.seq (.seq (.ops [zm 5 0,zx 6 (.lenT (.tmp 5)),zx 7 (.cmp .lss .i64 (.tmp 6) (.const (.int .i64 1))),zm 8 7,zh 9 8 false 0,zg 10 8 false (.lenT (.tmp 9)),zg 11 8 false (.cmp .gtr .i64 (.tmp 10) (.const (.int .i64 16))),zx 12 (.pick (.tmp 8) (.const (.bool true)) (.tmp 11)),zm 13 12,zh 14 13 false 0,zg 15 13 false (.ixT (.tmp 14) (.const (.int .i64 0))),zg 16 13 false (.cmp .lss .u8 (.tmp 15) (.const (.int .u8 97))),zx 17 (.pick (.tmp 13) (.const (.bool true)) (.tmp 16)),zm 18 17,zh 19 18 false 0,zg 20 18 false (.ixT (.tmp 19) (.const (.int .i64 0))),zg 21 18 false (.cmp .gtr .u8 (.tmp 20) (.const (.int .u8 122))),zx 22 (.pick (.tmp 18) (.const (.bool true)) (.tmp 21))]) (.cond (.tmp 22) (.ref 0) .skip)) (.ref 8)
def T17:Nat→XC
 | 0=>T17n0
 | 1=>T17n1
 | 2=>T17n2
 | 3=>T17n3
 | 4=>T17n4
 | 5=>T17n5
 | 6=>T17n6
 | 7=>T17n7
 | 8=>T17n8
 | 9=>T17n9
 | _=>.skip
theorem t17n0:T17 0=T17n0:=rfl
theorem t17n1:T17 1=T17n1:=rfl
theorem t17n2:T17 2=T17n2:=rfl
theorem t17n3:T17 3=T17n3:=rfl
theorem t17n4:T17 4=T17n4:=rfl
theorem t17n5:T17 5=T17n5:=rfl
theorem t17n6:T17 6=T17n6:=rfl
theorem t17n7:T17 7=T17n7:=rfl
theorem t17n8:T17 8=T17n8:=rfl
theorem t17n9:T17 9=T17n9:=rfl
def X17:XC:=.seq (.ops [zx 2 (.mov (.const (.bool false)))]) (.ref 9)
abbrev K17:List Nat:=[0,2,3,4,22,24,25,26,48]
theorem n17:Tryz.f17.ntmps=53:=by kernel_rfl
theorem r17:resT Tryz.f17.results.toList=some [2]:=by kernel_rfl
theorem x17:cmpF Tryz.prog Tryz.f17=some (expand T17 11 X17):=by kernel_rfl
def T18n0:XC:=.seq (.ops [zi 15 5,zn (.store 5 (.tmp 2) (.tmp 15)),zx 3 (.mov (.const (.string (ByteArray.mk (Array.mk []))))),zx 4 (.mov (.const (.bool true)))]) .ret
def T18n1:XC:=.seq (.ops [zx 28 (.build [.int .i64 0,.int .i64 0,.int .i64 0,.int .i64 0,.int .i64 0] []),zn (.store 5 (.tmp 2) (.tmp 28)),zx 3 (.mov (.const (.string (ByteArray.mk (Array.mk []))))),zx 4 (.mov (.const (.bool false)))]) .ret
def T18n2:XC:=.seq (.ops [zx 54 (.build [.int .i64 0,.int .i64 0,.int .i64 0,.int .i64 0,.int .i64 0] []),zn (.store 5 (.tmp 2) (.tmp 54)),zx 3 (.mov (.const (.string (ByteArray.mk (Array.mk []))))),zx 4 (.mov (.const (.bool false)))]) .ret
def T18n3:XC:=.seq (.ops [zi 55 5,zm 56 0,zm 57 7,zp 58 57,zx 59 (.subT (.tmp 56) (some (.tmp 58)) none),zn (.store 5 (.tmp 2) (.tmp 55)),zm 3 59,zx 4 (.mov (.const (.bool true)))]) .ret
def T18n4:XC:=.seq (.seq (.ops [zm 37 6,zx 38 (.cmp .neq .i64 (.tmp 37) (.const (.int .i64 0))),zm 39 38,zg 40 39 false (.fld 0 (.tmp 5)),zg 41 39 false (.load [.int .i64] false (.tmp 40)),.mk (some 42) (some (39,false)) (.call 32 [.tmp 41]),zg 43 39 false (.not (.tmp 42)),zx 44 (.pick (.tmp 39) (.const (.bool true)) (.tmp 43)),zm 45 44,zg 46 45 false (.load [.int .i64,.int .i64,.int .i64,.int .i64,.int .i64] true (.tmp 5)),.mk (some 47) (some (45,false)) (.call 33 [.tmp 46]),zg 48 45 false (.not (.tmp 47)),zx 49 (.pick (.tmp 45) (.const (.bool true)) (.tmp 48)),zm 50 49,zh 51 50 false 0,.mk (some 52) (some (50,false)) (.call 34 [.tmp 51,.const (.string (ByteArray.mk (Array.mk [UInt8.ofNat 114,UInt8.ofNat 97,UInt8.ofNat 119])))]),zx 53 (.pick (.tmp 50) (.const (.bool true)) (.tmp 52))]) (.cond (.tmp 53) (.ref 2) .skip)) (.ref 3)
def T18n5:XC:=.seq (.ops [zm 30 0,zm 31 7,zx 32 (.subT (.tmp 30) none (some (.tmp 31))),zx 33 (.cat (.tmp 32) (.const (.string (ByteArray.mk (Array.mk [UInt8.ofNat 32,UInt8.ofNat 48]))))),zc 34 30 [.tmp 33],zm 29 34,zy 35 29 0,zy 36 29 1,zn (.store 5 (.tmp 5) (.tmp 35)),zm 6 36]) (.ref 4)
def T18n6:XC:=.seq (.seq (.ops [zm 18 7,zx 19 (.cmp .lss .i64 (.tmp 18) (.const (.int .i64 0))),zm 20 19,zh 21 20 false 0,zh 22 20 false 7,zg 23 20 false (.arith .add .i64 (.tmp 22) (.const (.int .i64 1))),zg 24 20 false (.subT (.tmp 21) (some (.tmp 23)) none),.mk (some 25) (some (20,false)) (.call 17 [.tmp 24]),zg 26 20 false (.not (.tmp 25)),zx 27 (.pick (.tmp 20) (.const (.bool true)) (.tmp 26))]) (.cond (.tmp 27) (.ref 1) .skip)) (.ref 5)
def T18n7:XC:=.seq (.ops [zm 16 0,zc 17 31 [.tmp 16,.const (.int .u8 32)],zm 7 17]) (.ref 6)
def T18n8:XC:=.seq (.seq (.ops [zm 13 6,zx 14 (.cmp .eql .i64 (.tmp 13) (.const (.int .i64 0)))]) (.cond (.tmp 14) (.ref 0) .skip)) (.ref 7)
def T18n9:XC:=.seq (.ops [zm 9 0,zc 10 30 [.tmp 9],zm 8 10,zy 11 8 0,zy 12 8 1,zx 5 (.alloc 43 [.int .i64 0,.int .i64 0,.int .i64 0,.int .i64 0,.int .i64 0]),zn (.store 5 (.tmp 5) (.tmp 11)),zm 6 12]) (.ref 8)
def T18:Nat→XC
 | 0=>T18n0
 | 1=>T18n1
 | 2=>T18n2
 | 3=>T18n3
 | 4=>T18n4
 | 5=>T18n5
 | 6=>T18n6
 | 7=>T18n7
 | 8=>T18n8
 | 9=>T18n9
 | _=>.skip
theorem t18n0:T18 0=T18n0:=rfl
theorem t18n1:T18 1=T18n1:=rfl
theorem t18n2:T18 2=T18n2:=rfl
theorem t18n3:T18 3=T18n3:=rfl
theorem t18n4:T18 4=T18n4:=rfl
theorem t18n5:T18 5=T18n5:=rfl
theorem t18n6:T18 6=T18n6:=rfl
theorem t18n7:T18 7=T18n7:=rfl
theorem t18n8:T18 8=T18n8:=rfl
theorem t18n9:T18 9=T18n9:=rfl
def X18:XC:=.seq (.ops [zx 2 (.alloc 43 [.int .i64 0,.int .i64 0,.int .i64 0,.int .i64 0,.int .i64 0]),zx 3 (.mov (.const (.string (ByteArray.mk (Array.mk []))))),zx 4 (.mov (.const (.bool false)))]) (.ref 9)
abbrev K18:List Nat:=[0,2,3,4,5,6,7,14,27,53]
theorem n18:Tryz.f18.ntmps=60:=by kernel_rfl
theorem r18:rvOf Tryz.prog Tryz.f18.results.toList=some [RV.cell 2 5 true,RV.tmp 3,RV.tmp 4]:=by kernel_rfl
theorem x18:cmpF Tryz.prog Tryz.f18=some (expand T18 11 X18):=by kernel_rfl
def T19n0:XC:=.ops [zx 23 (.load [.map] false (.tmp 3)),zm 24 6,zn (.mupd .str (.tmp 23) (.tmp 24) (.const (.int .i64 1)))]
def T19n1:XC:=.seq (.ops [zm 18 7,zm 19 18,zh 20 19 true 6,.mk (some 21) (some (19,true)) (.call 17 [.tmp 20]),zx 22 (.pick (.tmp 19) (.tmp 21) (.const (.bool false)))]) (.cond (.tmp 22) (.ref 0) .skip)
def T19n2:XC:=.blk 1 (.seq (.ops [zm 14 5,.mk (some 15) none (.call 16 [.tmp 14,.const (.string (ByteArray.mk (Array.mk [UInt8.ofNat 58])))]),zm 13 15,zy 16 13 0,zy 17 13 1,zm 6 16,zm 7 17]) (.ref 1))
def T19n3:XC:=.blk 0 (.rng (.tmp 10) [11,12] (.ops [zm 5 12]) (.ref 2))
def T19n4:XC:=.seq (.ops [zx 25 (.load [.map] false (.tmp 3)),zm 2 25]) .ret
def T19n5:XC:=.seq (.seq (.ops [zm 9 0,zc 10 15 [.tmp 9]]) (.ref 3)) (.ref 4)
def T19n6:XC:=.seq (.ops [.mk (some 8) none (.k .mkmap),zx 3 (.alloc 41 [.map none]),zn (.store 1 (.tmp 3) (.tmp 8))]) (.ref 5)
def T19:Nat→XC
 | 0=>T19n0
 | 1=>T19n1
 | 2=>T19n2
 | 3=>T19n3
 | 4=>T19n4
 | 5=>T19n5
 | 6=>T19n6
 | _=>.skip
theorem t19n0:T19 0=T19n0:=rfl
theorem t19n1:T19 1=T19n1:=rfl
theorem t19n2:T19 2=T19n2:=rfl
theorem t19n3:T19 3=T19n3:=rfl
theorem t19n4:T19 4=T19n4:=rfl
theorem t19n5:T19 5=T19n5:=rfl
theorem t19n6:T19 6=T19n6:=rfl
def X19:XC:=.seq (.ops [zx 2 (.mov (.const (.map none)))]) (.ref 6)
abbrev K19:List Nat:=[0,2,3,5,6,7,10,12,22]
theorem n19:Tryz.f19.ntmps=26:=by kernel_rfl
theorem r19:resT Tryz.f19.results.toList=some [2]:=by kernel_rfl
theorem x19:cmpF Tryz.prog Tryz.f19=some (expand T19 8 X19):=by kernel_rfl
def T24n0:XC:=.seq (.ops [zm 23 0,zm 24 3,zp 25 24,zm 26 4,.mk (some 27) none (.callv (.tmp 23) [.tmp 25,.tmp 26]),zx 28 (.not (.tmp 27))]) (.cond (.tmp 28) .ret .skip)
def T24n1:XC:=.seq (.seq (.ops [zm 21 4,zx 22 (.eqs .eql (.tmp 21) (.const (.string (ByteArray.mk (Array.mk [])))))]) (.cond (.tmp 22) (.exit 1) .skip)) (.ref 0)
def T24n2:XC:=.seq (.ops [zm 19 4,.mk (some 20) none (.call 27 [.tmp 19,.const (.string (ByteArray.mk (Array.mk [UInt8.ofNat 32,UInt8.ofNat 9])))]),zm 4 20]) (.ref 1)
def T24n3:XC:=.seq (.ops [zm 14 4,.mk (some 15) none (.call 26 [.tmp 14,.const (.string (ByteArray.mk (Array.mk [UInt8.ofNat 59])))]),zm 13 15,zy 16 13 0,zy 17 13 1,zy 18 13 2,zm 4 16]) (.ref 2)
def T24n4:XC:=.seq (.blk 1 (.seq (.ops [zm 10 8,zd 11 1 6 8,zx 12 (.load [.str] false (.tmp 11)),zm 3 10,zm 4 12]) (.ref 3))) (.ops [zp 29 8,zm 8 29])
def T24n5:XC:=.seq (.cond (.tmp 9) .skip (.exit 0)) (.ref 4)
def T24n6:XC:=.seq (.ops [zk 9 .lss 8 7]) (.ref 5)
def T24n7:XC:=.seq (.ops [zx 5 (.load [.str] false (.tmp 1)),.mk (some 6) none (.call 25 [.tmp 5,.const (.string (ByteArray.mk (Array.mk [UInt8.ofNat 10])))]),ze 7 6,zx 8 (.mov (.const (.int .i64 0)))]) (.blk 0 (.loop (.ref 6)))
def T24:Nat→XC
 | 0=>T24n0
 | 1=>T24n1
 | 2=>T24n2
 | 3=>T24n3
 | 4=>T24n4
 | 5=>T24n5
 | 6=>T24n6
 | 7=>T24n7
 | _=>.skip
theorem t24n0:T24 0=T24n0:=rfl
theorem t24n1:T24 1=T24n1:=rfl
theorem t24n2:T24 2=T24n2:=rfl
theorem t24n3:T24 3=T24n3:=rfl
theorem t24n4:T24 4=T24n4:=rfl
theorem t24n5:T24 5=T24n5:=rfl
theorem t24n6:T24 6=T24n6:=rfl
theorem t24n7:T24 7=T24n7:=rfl
def X24:XC:=.scp (.seq (.lab) (.ref 7))
abbrev K24:List Nat:=[0,1,3,4,6,7,8,9,22,28]
theorem n24:Tryz.f24.ntmps=30:=by kernel_rfl
theorem r24:resT Tryz.f24.results.toList=some []:=by kernel_rfl
theorem x24:cmpF Tryz.prog Tryz.f24=some (expand T24 9 X24):=by kernel_rfl
def T29n0:XC:=.seq (.ops [zx 2 (.mov (.const (.bool true)))]) .ret
def T29n1:XC:=.seq (.ops [zx 2 (.mov (.const (.bool true)))]) .ret
def T29n2:XC:=.seq (.ops [zm 21 4,zm 22 0,zx 23 (.eqs .eql (.tmp 21) (.tmp 22))]) (.cond (.tmp 23) (.ref 1) .skip)
def T29n3:XC:=.ops [zm 11 3,zp 12 11,zm 3 12]
def T29n4:XC:=.seq (.blk 1 (.seq (.ops [zm 14 3,zx 15 (.build [.int .i64 0,.int .i64 0,.int .i64 0,.int .i64 0,.int .i64 0] [(0,1,.tmp 14)]),zc 16 51 [.tmp 15],.mk (some 17) none (.call 26 [.tmp 16,.const (.string (ByteArray.mk (Array.mk [UInt8.ofNat 32])))]),zm 13 17,zy 18 13 0,zy 19 13 1,zy 20 13 2,zm 4 18,zm 5 19,zm 6 20]) (.ref 2))) (.ref 3)
def T29n5:XC:=.seq (.seq (.ops [zm 9 3,zx 10 (.cmp .leq .i64 (.tmp 9) (.const (.int .i64 18)))]) (.cond (.tmp 10) .skip (.exit 0))) (.ref 4)
def T29n6:XC:=.seq (.ops [zx 2 (.mov (.const (.bool false)))]) .ret
def T29n7:XC:=.seq (.seq (.ops [zx 3 (.mov (.const (.int .i64 1)))]) (.blk 0 (.loop (.ref 5)))) (.ref 6)
def T29n8:XC:=.seq (.seq (.ops [zm 7 0,zx 8 (.eqs .eql (.tmp 7) (.const (.string (ByteArray.mk (Array.mk [UInt8.ofNat 114,UInt8.ofNat 97,UInt8.ofNat 119])))))]) (.cond (.tmp 8) (.ref 0) .skip)) (.ref 7)
def T29:Nat→XC
 | 0=>T29n0
 | 1=>T29n1
 | 2=>T29n2
 | 3=>T29n3
 | 4=>T29n4
 | 5=>T29n5
 | 6=>T29n6
 | 7=>T29n7
 | 8=>T29n8
 | _=>.skip
theorem t29n0:T29 0=T29n0:=rfl
theorem t29n1:T29 1=T29n1:=rfl
theorem t29n2:T29 2=T29n2:=rfl
theorem t29n3:T29 3=T29n3:=rfl
theorem t29n4:T29 4=T29n4:=rfl
theorem t29n5:T29 5=T29n5:=rfl
theorem t29n6:T29 6=T29n6:=rfl
theorem t29n7:T29 7=T29n7:=rfl
theorem t29n8:T29 8=T29n8:=rfl
def X29:XC:=.seq (.ops [zx 2 (.mov (.const (.bool false)))]) (.ref 8)
abbrev K29:List Nat:=[0,2,3,4,8,10,23]
theorem n29:Tryz.f29.ntmps=24:=by kernel_rfl
theorem r29:resT Tryz.f29.results.toList=some [2]:=by kernel_rfl
theorem x29:cmpF Tryz.prog Tryz.f29=some (expand T29 10 X29):=by kernel_rfl
def T32n0:XC:=.seq (.ops [zm 3 0,zx 4 (.cmp .eql .i64 (.tmp 3) (.const (.int .i64 13))),zm 5 4,zh 6 5 false 0,zg 7 5 false (.cmp .eql .i64 (.tmp 6) (.const (.int .i64 14))),zx 8 (.pick (.tmp 5) (.const (.bool true)) (.tmp 7)),zm 9 8,zh 10 9 false 0,zg 11 9 false (.cmp .eql .i64 (.tmp 10) (.const (.int .i64 15))),zx 12 (.pick (.tmp 9) (.const (.bool true)) (.tmp 11)),zm 13 12,zh 14 13 false 0,zg 15 13 false (.cmp .eql .i64 (.tmp 14) (.const (.int .i64 16))),zx 16 (.pick (.tmp 13) (.const (.bool true)) (.tmp 15)),zm 2 16]) .ret
def T32:Nat→XC
 | 0=>T32n0
 | _=>.skip
theorem t32n0:T32 0=T32n0:=rfl
def X32:XC:=.seq (.ops [zx 2 (.mov (.const (.bool false)))]) (.ref 0)
abbrev K32:List Nat:=[0,2]
theorem n32:Tryz.f32.ntmps=17:=by kernel_rfl
theorem r32:resT Tryz.f32.results.toList=some [2]:=by kernel_rfl
theorem x32:cmpF Tryz.prog Tryz.f32=some (expand T32 2 X32):=by kernel_rfl
attribute [go_sem] t4n0 t4n1 t4n2 t4n3 t4n4 t4n5 t4n6 t4n7 t4n8 t4n9 t4n10 t4n11 t4n12 t4n13 t4n14 t4n15 t4n16 t4n17 t4n18 T4n0 T4n1 T4n2 T4n3 T4n4 T4n5 T4n6 T4n7 T4n8 T4n9 T4n10 T4n11 T4n12 T4n13 T4n14 T4n15 T4n16 T4n17 T4n18 X4
attribute [go_sem] t8n0 t8n1 t8n2 t8n3 t8n4 t8n5 t8n6 t8n7 t8n8 t8n9 t8n10 t8n11 t8n12 t8n13 t8n14 t8n15 t8n16 T8n0 T8n1 T8n2 T8n3 T8n4 T8n5 T8n6 T8n7 T8n8 T8n9 T8n10 T8n11 T8n12 T8n13 T8n14 T8n15 T8n16 X8
attribute [go_sem] t9n0 t9n1 t9n2 t9n3 t9n4 t9n5 t9n6 t9n7 T9n0 T9n1 T9n2 T9n3 T9n4 T9n5 T9n6 T9n7 X9
attribute [go_sem] t15n0 T15n0 X15
attribute [go_sem] t17n0 t17n1 t17n2 t17n3 t17n4 t17n5 t17n6 t17n7 t17n8 t17n9 T17n0 T17n1 T17n2 T17n3 T17n4 T17n5 T17n6 T17n7 T17n8 T17n9 X17
attribute [go_sem] t18n0 t18n1 t18n2 t18n3 t18n4 t18n5 t18n6 t18n7 t18n8 t18n9 T18n0 T18n1 T18n2 T18n3 T18n4 T18n5 T18n6 T18n7 T18n8 T18n9 X18
attribute [go_sem] t19n0 t19n1 t19n2 t19n3 t19n4 t19n5 t19n6 T19n0 T19n1 T19n2 T19n3 T19n4 T19n5 T19n6 X19
attribute [go_sem] t24n0 t24n1 t24n2 t24n3 t24n4 t24n5 t24n6 t24n7 T24n0 T24n1 T24n2 T24n3 T24n4 T24n5 T24n6 T24n7 X24
attribute [go_sem] t29n0 t29n1 t29n2 t29n3 t29n4 t29n5 t29n6 t29n7 t29n8 T29n0 T29n1 T29n2 T29n3 T29n4 T29n5 T29n6 T29n7 T29n8 X29
attribute [go_sem] t32n0 T32n0 X32
end Go.Proofs.YtaiajnehnjnadaaGreatDoor
