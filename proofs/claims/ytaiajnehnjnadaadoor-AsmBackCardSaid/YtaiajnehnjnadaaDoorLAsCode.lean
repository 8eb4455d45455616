/- Printed by program: the small code of functions, and that it is theirs. -/
import Derived.Test.YtaiajnehnjnadaaDoorSxStill
import Derived.Test.YtaiajnehnjnadaaDoorProg
import Derived.KernelRfl
set_option linter.unusedSimpArgs false
set_option linter.unusedVariables false
set_option linter.unnecessarySimpa false
namespace Go.Proofs.YtaiajnehnjnadaaDoor
open Go Go.Sx
set_option maxRecDepth 100000
def T11n0:XC:=.seq (.ops [zm 27 8,zx 2 (.mov (.const (.slice none 0 0))),zm 3 27,zx 4 (.mov (.const (.int .i64 150)))]) .ret
def T11n1:XC:=.seq (.ops [zm 25 8,zx 26 (.cmp .gtr .i64 (.tmp 25) (.const (.int .i64 0)))]) (.cond (.tmp 26) (.ref 0) .skip)
def T11n2:XC:=.ops [zm 35 9,zf 36 0 11,zx 37 (.load [.str] false (.tmp 36)),zf 38 1 11,zl 39 38,zn (.mupd .str (.tmp 35) (.tmp 37) (.tmp 39))]
def T11n3:XC:=.seq (.blk 1 (.seq (.ops [zd 33 2 29 31,zx 34 (.load [.str,.int .i64] true (.tmp 33)),zx 11 (.alloc 39 [.string (ByteArray.mk (Array.mk [])),.int .i64 0]),zn (.store 2 (.tmp 11) (.tmp 34))]) (.ref 2))) (.ops [zp 40 31,zm 31 40])
def T11n4:XC:=.seq (.cond (.tmp 32) .skip (.exit 0)) (.ref 3)
def T11n5:XC:=.seq (.ops [zk 32 .lss 31 30]) (.ref 4)
def T11n6:XC:=.ops [zm 50 9,zf 51 6 14,zx 52 (.load [.str] false (.tmp 51)),zx 53 (.lkup .str (.int .i64 0) false (.tmp 50) (.tmp 52)),zf 54 1 14,zf 55 4 54,zn (.store 1 (.tmp 55) (.tmp 53))]
def T11n7:XC:=.ops [zm 56 12,zf 57 1 14,zi 58 57,zx 59 (.buildS 43 1 5 [.int .i64 0,.int .i64 0,.int .i64 0,.int .i64 0,.int .i64 0] [(0,.tmp 58)]),zx 60 (.app 43 5 40 (.tmp 56) (.tmp 59)),zm 12 60]
def T11n8:XC:=.seq (.seq (.ops [zf 47 6 14,zx 48 (.load [.str] false (.tmp 47)),zx 49 (.eqs .neq (.tmp 48) (.const (.string (ByteArray.mk (Array.mk [])))))]) (.cond (.tmp 49) (.ref 6) .skip)) (.ref 7)
def T11n9:XC:=.seq (.blk 3 (.seq (.ops [zd 45 7 41 43,zx 46 (.load [.int .i64,.int .i64,.int .i64,.int .i64,.int .i64,.int .i64,.str] true (.tmp 45)),zx 14 (.alloc 65 [.int .i64 0,.int .i64 0,.int .i64 0,.int .i64 0,.int .i64 0,.int .i64 0,.string (ByteArray.mk (Array.mk []))]),zn (.store 7 (.tmp 14) (.tmp 46))]) (.ref 8))) (.ops [zp 61 43,zm 43 61])
def T11n10:XC:=.seq (.cond (.tmp 44) .skip (.exit 2)) (.ref 9)
def T11n11:XC:=.seq (.ops [zk 44 .lss 43 42]) (.ref 10)
def T11n12:XC:=.seq (.ops [zm 62 12,zm 2 62,zx 3 (.mov (.const (.int .i64 0))),zx 4 (.mov (.const (.int .i64 0)))]) .ret
def T11n13:XC:=.seq (.seq (.ops [zm 41 5,ze 42 41,zx 43 (.mov (.const (.int .i64 0)))]) (.blk 2 (.loop (.ref 11)))) (.ref 12)
def T11n14:XC:=.seq (.ops [zx 12 (.mov (.const (.slice none 0 0)))]) (.ref 13)
def T11n15:XC:=.seq (.seq (.ops [zm 29 6,ze 30 29,zx 31 (.mov (.const (.int .i64 0)))]) (.blk 0 (.loop (.ref 5)))) (.ref 14)
def T11n16:XC:=.seq (.ops [.mk (some 28) none (.k .mkmap),zm 9 28]) (.ref 15)
def T11n17:XC:=.seq (.seq (.ops [zm 21 0,zm 22 5,zm 23 7,zc 24 24 [.tmp 21,.tmp 22,.tmp 23],zm 8 24]) (.ref 1)) (.ref 16)
def T11n18:XC:=.seq (.ops [zm 16 0,zc 17 23 [.tmp 16],zm 15 17,zy 18 15 0,zy 19 15 1,zy 20 15 2,zm 5 18,zm 6 19,zm 7 20]) (.ref 17)
def T11:Nat→XC
 | 0=>T11n0
 | 1=>T11n1
 | 2=>T11n2
 | 3=>T11n3
 | 4=>T11n4
 | 5=>T11n5
 | 6=>T11n6
 | 7=>T11n7
 | 8=>T11n8
 | 9=>T11n9
 | 10=>T11n10
 | 11=>T11n11
 | 12=>T11n12
 | 13=>T11n13
 | 14=>T11n14
 | 15=>T11n15
 | 16=>T11n16
 | 17=>T11n17
 | 18=>T11n18
 | _=>.skip
theorem t11n0:T11 0=T11n0:=rfl
theorem t11n1:T11 1=T11n1:=rfl
theorem t11n2:T11 2=T11n2:=rfl
theorem t11n3:T11 3=T11n3:=rfl
theorem t11n4:T11 4=T11n4:=rfl
theorem t11n5:T11 5=T11n5:=rfl
theorem t11n6:T11 6=T11n6:=rfl
theorem t11n7:T11 7=T11n7:=rfl
theorem t11n8:T11 8=T11n8:=rfl
theorem t11n9:T11 9=T11n9:=rfl
theorem t11n10:T11 10=T11n10:=rfl
theorem t11n11:T11 11=T11n11:=rfl
theorem t11n12:T11 12=T11n12:=rfl
theorem t11n13:T11 13=T11n13:=rfl
theorem t11n14:T11 14=T11n14:=rfl
theorem t11n15:T11 15=T11n15:=rfl
theorem t11n16:T11 16=T11n16:=rfl
theorem t11n17:T11 17=T11n17:=rfl
theorem t11n18:T11 18=T11n18:=rfl
def X11:XC:=.seq (.ops [zx 2 (.mov (.const (.slice none 0 0))),zx 3 (.mov (.const (.int .i64 0))),zx 4 (.mov (.const (.int .i64 0)))]) (.ref 18)
abbrev K11:List Nat:=[0,2,3,4,5,6,7,8,9,11,12,14,26,29,30,31,32,41,42,43,44,49]
theorem n11:Tryd.f11.ntmps=63:=by kernel_rfl
theorem r11:resT Tryd.f11.results.toList=some [2,3,4]:=by kernel_rfl
theorem x11:cmpF Tryd.prog Tryd.f11=some (expand T11 20 X11):=by kernel_rfl
def T23n0:XC:=.seq (.ops [zm 8 18]) (.ops [zm 9 19])
def T23n1:XC:=.seq (.ops [zx 34 (.load [.slc] false (.tmp 5)),zx 35 (.load [.slc] false (.tmp 6)),zm 36 8,zn (.store 1 (.tmp 2) (.tmp 34)),.mk none none (.still 35 (.load [.slc] false (.tmp 6))),zn (.store 1 (.tmp 3) (.tmp 35)),zn (.store 1 (.tmp 4) (.tmp 36))]) .ret
def T23n2:XC:=.seq (.ops [zx 39 (.load [.slc] false (.tmp 6)),zm 40 10,zx 41 (.load [.slc] false (.tmp 5)),ze 42 41,zx 43 (.build [.string (ByteArray.mk (Array.mk [])),.int .i64 0] [(0,1,.tmp 40),(1,1,.tmp 42)]),zx 44 (.buildS 39 1 2 [.string (ByteArray.mk (Array.mk [])),.int .i64 0] [(0,.tmp 43)]),zx 45 (.app 39 2 24 (.tmp 39) (.tmp 44)),zn (.store 1 (.tmp 6) (.tmp 45))]) (.exit 1)
def T23n3:XC:=.seq (.ops [zx 37 (.load [.map] false (.tmp 7)),zm 38 10,zn (.mupd .str (.tmp 37) (.tmp 38) (.const (.int .i64 1)))]) (.ref 2)
def T23n4:XC:=.seq (.seq (.ops [zx 30 (.load [.map] false (.tmp 7)),zm 31 10,zx 32 (.lkup .str (.int .i64 0) false (.tmp 30) (.tmp 31)),zx 33 (.cmp .gtr .i64 (.tmp 32) (.const (.int .i64 0)))]) (.cond (.tmp 33) (.ref 1) .skip)) (.ref 3)
def T23n5:XC:=.seq (.ops [zm 25 11,zm 26 25,zh 27 26 true 10,.mk (some 28) (some (26,true)) (.call 38 [.tmp 27]),zx 29 (.pick (.tmp 26) (.tmp 28) (.const (.bool false)))]) (.cond (.tmp 29) (.ref 4) .skip)
def T23n6:XC:=.seq (.ops [zx 59 (.load [.slc] false (.tmp 5)),zx 60 (.load [.slc] false (.tmp 6)),zm 61 8,zn (.store 1 (.tmp 2) (.tmp 59)),.mk none none (.still 60 (.load [.slc] false (.tmp 6))),zn (.store 1 (.tmp 3) (.tmp 60)),zn (.store 1 (.tmp 4) (.tmp 61))]) .ret
def T23n7:XC:=.ops [zx 62 (.load [.slc] false (.tmp 5)),zm 63 8,zi 64 12,zm 65 13,zx 66 (.build [.int .i64 0,.int .i64 0,.int .i64 0,.int .i64 0,.int .i64 0,.int .i64 0,.string (ByteArray.mk (Array.mk []))] [(0,1,.tmp 63),(1,5,.tmp 64),(6,1,.tmp 65)]),zx 67 (.buildS 65 1 7 [.int .i64 0,.int .i64 0,.int .i64 0,.int .i64 0,.int .i64 0,.int .i64 0,.string (ByteArray.mk (Array.mk []))] [(0,.tmp 66)]),zx 68 (.app 65 7 64 (.tmp 62) (.tmp 67)),zn (.store 1 (.tmp 5) (.tmp 68))]
def T23n8:XC:=.seq (.seq (.ops [zm 52 14,zx 53 (.not (.tmp 52)),zm 54 53,zg 55 54 false (.load [.slc] false (.tmp 5)),zg 56 54 false (.lenS (.tmp 55)),zg 57 54 false (.cmp .geq .i64 (.tmp 56) (.const (.int .i64 1024))),zx 58 (.pick (.tmp 54) (.const (.bool true)) (.tmp 57))]) (.cond (.tmp 58) (.ref 6) .skip)) (.ref 7)
def T23n9:XC:=.seq (.ops [zm 47 9,zc 48 39 [.tmp 47],zm 46 48,zy 49 46 0,zy 50 46 1,zy 51 46 2,zx 12 (.alloc 43 [.int .i64 0,.int .i64 0,.int .i64 0,.int .i64 0,.int .i64 0]),zn (.store 5 (.tmp 12) (.tmp 49)),zm 13 50,zm 14 51]) (.ref 8)
def T23n10:XC:=.blk 1 (.seq (.seq (.ops [zm 21 9,.mk (some 22) none (.call 37 [.tmp 21,.const (.string (ByteArray.mk (Array.mk [UInt8.ofNat 58])))]),zm 20 22,zy 23 20 0,zy 24 20 1,zm 10 23,zm 11 24]) (.ref 5)) (.ref 9))
def T23n11:XC:=.blk 0 (.rng (.tmp 17) [18,19] (.ref 0) (.ref 10))
def T23n12:XC:=.seq (.ops [zx 69 (.load [.slc] false (.tmp 5)),zx 70 (.load [.slc] false (.tmp 6)),zn (.store 1 (.tmp 2) (.tmp 69)),.mk none none (.still 70 (.load [.slc] false (.tmp 6))),zn (.store 1 (.tmp 3) (.tmp 70)),zn (.store 1 (.tmp 4) (.const (.int .i64 0)))]) .ret
def T23n13:XC:=.seq (.seq (.ops [zm 16 0,zc 17 36 [.tmp 16]]) (.ref 11)) (.ref 12)
def T23n14:XC:=.seq (.ops [.mk (some 15) none (.k .mkmap),zx 7 (.alloc 63 [.map none]),zn (.store 1 (.tmp 7) (.tmp 15))]) (.ref 13)
def T23n15:XC:=.seq (.ops [zx 6 (.alloc 35 [.slice none 0 0])]) (.ref 14)
def T23n16:XC:=.seq (.ops [zx 5 (.alloc 59 [.slice none 0 0])]) (.ref 15)
def T23:Nat→XC
 | 0=>T23n0
 | 1=>T23n1
 | 2=>T23n2
 | 3=>T23n3
 | 4=>T23n4
 | 5=>T23n5
 | 6=>T23n6
 | 7=>T23n7
 | 8=>T23n8
 | 9=>T23n9
 | 10=>T23n10
 | 11=>T23n11
 | 12=>T23n12
 | 13=>T23n13
 | 14=>T23n14
 | 15=>T23n15
 | 16=>T23n16
 | _=>.skip
theorem t23n0:T23 0=T23n0:=rfl
theorem t23n1:T23 1=T23n1:=rfl
theorem t23n2:T23 2=T23n2:=rfl
theorem t23n3:T23 3=T23n3:=rfl
theorem t23n4:T23 4=T23n4:=rfl
theorem t23n5:T23 5=T23n5:=rfl
theorem t23n6:T23 6=T23n6:=rfl
theorem t23n7:T23 7=T23n7:=rfl
theorem t23n8:T23 8=T23n8:=rfl
theorem t23n9:T23 9=T23n9:=rfl
theorem t23n10:T23 10=T23n10:=rfl
theorem t23n11:T23 11=T23n11:=rfl
theorem t23n12:T23 12=T23n12:=rfl
theorem t23n13:T23 13=T23n13:=rfl
theorem t23n14:T23 14=T23n14:=rfl
theorem t23n15:T23 15=T23n15:=rfl
theorem t23n16:T23 16=T23n16:=rfl
def X23:XC:=.seq (.ops [zx 2 (.alloc 59 [.slice none 0 0]),zx 3 (.alloc 35 [.slice none 0 0]),zx 4 (.alloc 3 [.int .i64 0])]) (.ref 16)
abbrev K23:List Nat:=[0,2,3,4,5,6,7,8,9,10,11,12,13,14,17,18,19,29,33,58]
theorem n23:Tryd.f23.ntmps=71:=by kernel_rfl
theorem r23:rvOf Tryd.prog Tryd.f23.results.toList=some [RV.cell 2 1 false,RV.cell 3 1 false,RV.cell 4 1 false]:=by kernel_rfl
theorem x23:cmpF Tryd.prog Tryd.f23=some (expand T23 18 X23):=by kernel_rfl
def T24n0:XC:=.seq (.ops [zf 28 0 9,zl 29 28,zm 6 29]) .ret
def T24n1:XC:=.seq (.ops [zf 18 6 9,zx 19 (.load [.str] false (.tmp 18)),zx 20 (.eqs .neq (.tmp 19) (.const (.string (ByteArray.mk (Array.mk []))))),zm 21 20,zh 22 21 true 7,zg 23 21 true (.fld 6 (.tmp 9)),zg 24 21 true (.load [.str] false (.tmp 23)),zg 25 21 true (.lkup .str (.int .i64 0) false (.tmp 22) (.tmp 24)),zg 26 21 true (.cmp .eql .i64 (.tmp 25) (.const (.int .i64 0))),zx 27 (.pick (.tmp 21) (.tmp 26) (.const (.bool false)))]) (.cond (.tmp 27) (.ref 0) .skip)
def T24n2:XC:=.seq (.blk 1 (.seq (.ops [zd 16 7 12 14,zx 17 (.load [.int .i64,.int .i64,.int .i64,.int .i64,.int .i64,.int .i64,.str] true (.tmp 16)),zx 9 (.alloc 65 [.int .i64 0,.int .i64 0,.int .i64 0,.int .i64 0,.int .i64 0,.int .i64 0,.string (ByteArray.mk (Array.mk []))]),zn (.store 7 (.tmp 9) (.tmp 17))]) (.ref 1))) (.ops [zp 30 14,zm 14 30])
def T24n3:XC:=.seq (.cond (.tmp 15) .skip (.exit 0)) (.ref 2)
def T24n4:XC:=.seq (.ops [zk 15 .lss 14 13]) (.ref 3)
def T24n5:XC:=.seq (.ops [zm 31 2,zm 6 31]) .ret
def T24n6:XC:=.seq (.seq (.ops [zm 12 1,ze 13 12,zx 14 (.mov (.const (.int .i64 0)))]) (.blk 0 (.loop (.ref 4)))) (.ref 5)
def T24n7:XC:=.seq (.ops [zm 10 0,zc 11 40 [.tmp 10],zm 7 11]) (.ref 6)
def T24:Nat→XC
 | 0=>T24n0
 | 1=>T24n1
 | 2=>T24n2
 | 3=>T24n3
 | 4=>T24n4
 | 5=>T24n5
 | 6=>T24n6
 | 7=>T24n7
 | _=>.skip
theorem t24n0:T24 0=T24n0:=rfl
theorem t24n1:T24 1=T24n1:=rfl
theorem t24n2:T24 2=T24n2:=rfl
theorem t24n3:T24 3=T24n3:=rfl
theorem t24n4:T24 4=T24n4:=rfl
theorem t24n5:T24 5=T24n5:=rfl
theorem t24n6:T24 6=T24n6:=rfl
theorem t24n7:T24 7=T24n7:=rfl
def X24:XC:=.seq (.ops [zx 6 (.mov (.const (.int .i64 0)))]) (.ref 7)
abbrev K24:List Nat:=[0,1,2,6,7,9,12,13,14,15,27]
theorem n24:Tryd.f24.ntmps=32:=by kernel_rfl
theorem r24:resT Tryd.f24.results.toList=some [6]:=by kernel_rfl
theorem x24:cmpF Tryd.prog Tryd.f24=some (expand T24 9 X24):=by kernel_rfl
def T36n0:XC:=.seq (.ops [zx 3 (.mkfn (.func 47) [] [.tmp 1]),zm 2 3]) .ret
def T36:Nat→XC
 | 0=>T36n0
 | _=>.skip
theorem t36n0:T36 0=T36n0:=rfl
def X36:XC:=.seq (.ops [zx 1 (.box 9 1 (.tmp 0)),zx 2 (.mov (.const .nilFunc))]) (.ref 0)
abbrev K36:List Nat:=[0,1,2]
theorem n36:Tryd.f36.ntmps=4:=by kernel_rfl
theorem r36:resT Tryd.f36.results.toList=some [2]:=by kernel_rfl
theorem x36:cmpF Tryd.prog Tryd.f36=some (expand T36 2 X36):=by kernel_rfl
def T38n0:XC:=.seq (.ops [zx 2 (.mov (.const (.bool false)))]) .ret
def T38n1:XC:=.seq (.ops [zx 2 (.mov (.const (.bool false)))]) .ret
def T38n2:XC:=.seq (.ops [zm 31 4,zx 32 (.cmp .lss .u8 (.tmp 31) (.const (.int .u8 97))),zm 33 32,zh 34 33 false 4,zg 35 33 false (.cmp .gtr .u8 (.tmp 34) (.const (.int .u8 122))),zx 36 (.pick (.tmp 33) (.const (.bool true)) (.tmp 35)),zm 37 36,zh 38 37 true 4,zg 39 37 true (.cmp .lss .u8 (.tmp 38) (.const (.int .u8 48))),zh 40 37 true 39,zh 41 40 false 4,zg 42 40 false (.cmp .gtr .u8 (.tmp 41) (.const (.int .u8 57))),zg 43 37 true (.pick (.tmp 40) (.const (.bool true)) (.tmp 42)),zx 44 (.pick (.tmp 37) (.tmp 43) (.const (.bool false))),zm 45 44,zh 46 45 true 4,zg 47 45 true (.cmp .neq .u8 (.tmp 46) (.const (.int .u8 95))),zx 48 (.pick (.tmp 45) (.tmp 47) (.const (.bool false)))]) (.cond (.tmp 48) (.ref 1) .skip)
def T38n3:XC:=.seq (.ops [zm 28 0,zm 29 3,zx 30 (.ixT (.tmp 28) (.tmp 29)),zm 4 30]) (.ref 2)
def T38n4:XC:=.seq (.blk 1 (.seq (.ops [zm 27 25,zm 3 27]) (.ref 3))) (.ops [zp 49 25,zm 25 49])
def T38n5:XC:=.seq (.cond (.tmp 26) .skip (.exit 0)) (.ref 4)
def T38n6:XC:=.seq (.ops [zk 26 .lss 25 24]) (.ref 5)
def T38n7:XC:=.seq (.ops [zm 50 0,zc 51 52 [.tmp 50],zx 52 (.not (.tmp 51)),zm 2 52]) .ret
def T38n8:XC:=.seq (.seq (.ops [zm 23 0,zx 24 (.lenT (.tmp 23)),zx 25 (.mov (.const (.int .i64 0)))]) (.blk 0 (.loop (.ref 6)))) (.ref 7)
def T38n9:XC:=.seq (.seq (.ops [zm 5 0,zx 6 (.lenT (.tmp 5)),zx 7 (.cmp .lss .i64 (.tmp 6) (.const (.int .i64 1))),zm 8 7,zh 9 8 false 0,zg 10 8 false (.lenT (.tmp 9)),zg 11 8 false (.cmp .gtr .i64 (.tmp 10) (.const (.int .i64 16))),zx 12 (.pick (.tmp 8) (.const (.bool true)) (.tmp 11)),zm 13 12,zh 14 13 false 0,zg 15 13 false (.ixT (.tmp 14) (.const (.int .i64 0))),zg 16 13 false (.cmp .lss .u8 (.tmp 15) (.const (.int .u8 97))),zx 17 (.pick (.tmp 13) (.const (.bool true)) (.tmp 16)),zm 18 17,zh 19 18 false 0,zg 20 18 false (.ixT (.tmp 19) (.const (.int .i64 0))),zg 21 18 false (.cmp .gtr .u8 (.tmp 20) (.const (.int .u8 122))),zx 22 (.pick (.tmp 18) (.const (.bool true)) (.tmp 21))]) (.cond (.tmp 22) (.ref 0) .skip)) (.ref 8)
def T38:Nat→XC
 | 0=>T38n0
 | 1=>T38n1
 | 2=>T38n2
 | 3=>T38n3
 | 4=>T38n4
 | 5=>T38n5
 | 6=>T38n6
 | 7=>T38n7
 | 8=>T38n8
 | 9=>T38n9
 | _=>.skip
theorem t38n0:T38 0=T38n0:=rfl
theorem t38n1:T38 1=T38n1:=rfl
theorem t38n2:T38 2=T38n2:=rfl
theorem t38n3:T38 3=T38n3:=rfl
theorem t38n4:T38 4=T38n4:=rfl
theorem t38n5:T38 5=T38n5:=rfl
theorem t38n6:T38 6=T38n6:=rfl
theorem t38n7:T38 7=T38n7:=rfl
theorem t38n8:T38 8=T38n8:=rfl
theorem t38n9:T38 9=T38n9:=rfl
def X38:XC:=.seq (.ops [zx 2 (.mov (.const (.bool false)))]) (.ref 9)
abbrev K38:List Nat:=[0,2,3,4,22,24,25,26,48]
theorem n38:Tryd.f38.ntmps=53:=by kernel_rfl
theorem r38:resT Tryd.f38.results.toList=some [2]:=by kernel_rfl
theorem x38:cmpF Tryd.prog Tryd.f38=some (expand T38 11 X38):=by kernel_rfl
def T39n0:XC:=.seq (.ops [zi 15 5,zn (.store 5 (.tmp 2) (.tmp 15)),zx 3 (.mov (.const (.string (ByteArray.mk (Array.mk []))))),zx 4 (.mov (.const (.bool true)))]) .ret
def T39n1:XC:=.seq (.ops [zx 28 (.build [.int .i64 0,.int .i64 0,.int .i64 0,.int .i64 0,.int .i64 0] []),zn (.store 5 (.tmp 2) (.tmp 28)),zx 3 (.mov (.const (.string (ByteArray.mk (Array.mk []))))),zx 4 (.mov (.const (.bool false)))]) .ret
def T39n2:XC:=.seq (.ops [zx 54 (.build [.int .i64 0,.int .i64 0,.int .i64 0,.int .i64 0,.int .i64 0] []),zn (.store 5 (.tmp 2) (.tmp 54)),zx 3 (.mov (.const (.string (ByteArray.mk (Array.mk []))))),zx 4 (.mov (.const (.bool false)))]) .ret
def T39n3:XC:=.seq (.ops [zi 55 5,zm 56 0,zm 57 7,zp 58 57,zx 59 (.subT (.tmp 56) (some (.tmp 58)) none),zn (.store 5 (.tmp 2) (.tmp 55)),zm 3 59,zx 4 (.mov (.const (.bool true)))]) .ret
def T39n4:XC:=.seq (.seq (.ops [zm 37 6,zx 38 (.cmp .neq .i64 (.tmp 37) (.const (.int .i64 0))),zm 39 38,zg 40 39 false (.fld 0 (.tmp 5)),zg 41 39 false (.load [.int .i64] false (.tmp 40)),.mk (some 42) (some (39,false)) (.call 25 [.tmp 41]),zg 43 39 false (.not (.tmp 42)),zx 44 (.pick (.tmp 39) (.const (.bool true)) (.tmp 43)),zm 45 44,zg 46 45 false (.load [.int .i64,.int .i64,.int .i64,.int .i64,.int .i64] true (.tmp 5)),.mk (some 47) (some (45,false)) (.call 26 [.tmp 46]),zg 48 45 false (.not (.tmp 47)),zx 49 (.pick (.tmp 45) (.const (.bool true)) (.tmp 48)),zm 50 49,zh 51 50 false 0,.mk (some 52) (some (50,false)) (.call 27 [.tmp 51,.const (.string (ByteArray.mk (Array.mk [UInt8.ofNat 114,UInt8.ofNat 97,UInt8.ofNat 119])))]),zx 53 (.pick (.tmp 50) (.const (.bool true)) (.tmp 52))]) (.cond (.tmp 53) (.ref 2) .skip)) (.ref 3)
def T39n5:XC:=.seq (.ops [zm 30 0,zm 31 7,zx 32 (.subT (.tmp 30) none (some (.tmp 31))),zx 33 (.cat (.tmp 32) (.const (.string (ByteArray.mk (Array.mk [UInt8.ofNat 32,UInt8.ofNat 48]))))),zc 34 53 [.tmp 33],zm 29 34,zy 35 29 0,zy 36 29 1,zn (.store 5 (.tmp 5) (.tmp 35)),zm 6 36]) (.ref 4)
def T39n6:XC:=.seq (.seq (.ops [zm 18 7,zx 19 (.cmp .lss .i64 (.tmp 18) (.const (.int .i64 0))),zm 20 19,zh 21 20 false 0,zh 22 20 false 7,zg 23 20 false (.arith .add .i64 (.tmp 22) (.const (.int .i64 1))),zg 24 20 false (.subT (.tmp 21) (some (.tmp 23)) none),.mk (some 25) (some (20,false)) (.call 38 [.tmp 24]),zg 26 20 false (.not (.tmp 25)),zx 27 (.pick (.tmp 20) (.const (.bool true)) (.tmp 26))]) (.cond (.tmp 27) (.ref 1) .skip)) (.ref 5)
def T39n7:XC:=.seq (.ops [zm 16 0,zc 17 18 [.tmp 16,.const (.int .u8 32)],zm 7 17]) (.ref 6)
def T39n8:XC:=.seq (.seq (.ops [zm 13 6,zx 14 (.cmp .eql .i64 (.tmp 13) (.const (.int .i64 0)))]) (.cond (.tmp 14) (.ref 0) .skip)) (.ref 7)
def T39n9:XC:=.seq (.ops [zm 9 0,zc 10 53 [.tmp 9],zm 8 10,zy 11 8 0,zy 12 8 1,zx 5 (.alloc 43 [.int .i64 0,.int .i64 0,.int .i64 0,.int .i64 0,.int .i64 0]),zn (.store 5 (.tmp 5) (.tmp 11)),zm 6 12]) (.ref 8)
def T39:Nat→XC
 | 0=>T39n0
 | 1=>T39n1
 | 2=>T39n2
 | 3=>T39n3
 | 4=>T39n4
 | 5=>T39n5
 | 6=>T39n6
 | 7=>T39n7
 | 8=>T39n8
 | 9=>T39n9
 | _=>.skip
theorem t39n0:T39 0=T39n0:=rfl
theorem t39n1:T39 1=T39n1:=rfl
theorem t39n2:T39 2=T39n2:=rfl
theorem t39n3:T39 3=T39n3:=rfl
theorem t39n4:T39 4=T39n4:=rfl
theorem t39n5:T39 5=T39n5:=rfl
theorem t39n6:T39 6=T39n6:=rfl
theorem t39n7:T39 7=T39n7:=rfl
theorem t39n8:T39 8=T39n8:=rfl
theorem t39n9:T39 9=T39n9:=rfl
def X39:XC:=.seq (.ops [zx 2 (.alloc 43 [.int .i64 0,.int .i64 0,.int .i64 0,.int .i64 0,.int .i64 0]),zx 3 (.mov (.const (.string (ByteArray.mk (Array.mk []))))),zx 4 (.mov (.const (.bool false)))]) (.ref 9)
abbrev K39:List Nat:=[0,2,3,4,5,6,7,14,27,53]
theorem n39:Tryd.f39.ntmps=60:=by kernel_rfl
theorem r39:rvOf Tryd.prog Tryd.f39.results.toList=some [RV.cell 2 5 true,RV.tmp 3,RV.tmp 4]:=by kernel_rfl
theorem x39:cmpF Tryd.prog Tryd.f39=some (expand T39 11 X39):=by kernel_rfl
def T40n0:XC:=.ops [zx 23 (.load [.map] false (.tmp 3)),zm 24 6,zn (.mupd .str (.tmp 23) (.tmp 24) (.const (.int .i64 1)))]
def T40n1:XC:=.seq (.ops [zm 18 7,zm 19 18,zh 20 19 true 6,.mk (some 21) (some (19,true)) (.call 38 [.tmp 20]),zx 22 (.pick (.tmp 19) (.tmp 21) (.const (.bool false)))]) (.cond (.tmp 22) (.ref 0) .skip)
def T40n2:XC:=.blk 1 (.seq (.ops [zm 14 5,.mk (some 15) none (.call 37 [.tmp 14,.const (.string (ByteArray.mk (Array.mk [UInt8.ofNat 58])))]),zm 13 15,zy 16 13 0,zy 17 13 1,zm 6 16,zm 7 17]) (.ref 1))
def T40n3:XC:=.blk 0 (.rng (.tmp 10) [11,12] (.ops [zm 5 12]) (.ref 2))
def T40n4:XC:=.seq (.ops [zx 25 (.load [.map] false (.tmp 3)),zm 2 25]) .ret
def T40n5:XC:=.seq (.seq (.ops [zm 9 0,zc 10 36 [.tmp 9]]) (.ref 3)) (.ref 4)
def T40n6:XC:=.seq (.ops [.mk (some 8) none (.k .mkmap),zx 3 (.alloc 63 [.map none]),zn (.store 1 (.tmp 3) (.tmp 8))]) (.ref 5)
def T40:Nat→XC
 | 0=>T40n0
 | 1=>T40n1
 | 2=>T40n2
 | 3=>T40n3
 | 4=>T40n4
 | 5=>T40n5
 | 6=>T40n6
 | _=>.skip
theorem t40n0:T40 0=T40n0:=rfl
theorem t40n1:T40 1=T40n1:=rfl
theorem t40n2:T40 2=T40n2:=rfl
theorem t40n3:T40 3=T40n3:=rfl
theorem t40n4:T40 4=T40n4:=rfl
theorem t40n5:T40 5=T40n5:=rfl
theorem t40n6:T40 6=T40n6:=rfl
def X40:XC:=.seq (.ops [zx 2 (.mov (.const (.map none)))]) (.ref 6)
abbrev K40:List Nat:=[0,2,3,5,6,7,10,12,22]
theorem n40:Tryd.f40.ntmps=26:=by kernel_rfl
theorem r40:resT Tryd.f40.results.toList=some [2]:=by kernel_rfl
theorem x40:cmpF Tryd.prog Tryd.f40=some (expand T40 8 X40):=by kernel_rfl
def T47n0:XC:=.seq (.ops [zm 23 0,zm 24 3,zp 25 24,zm 26 4,.mk (some 27) none (.callv (.tmp 23) [.tmp 25,.tmp 26]),zx 28 (.not (.tmp 27))]) (.cond (.tmp 28) .ret .skip)
def T47n1:XC:=.seq (.seq (.ops [zm 21 4,zx 22 (.eqs .eql (.tmp 21) (.const (.string (ByteArray.mk (Array.mk [])))))]) (.cond (.tmp 22) (.exit 1) .skip)) (.ref 0)
def T47n2:XC:=.seq (.ops [zm 19 4,.mk (some 20) none (.call 50 [.tmp 19,.const (.string (ByteArray.mk (Array.mk [UInt8.ofNat 32,UInt8.ofNat 9])))]),zm 4 20]) (.ref 1)
def T47n3:XC:=.seq (.ops [zm 14 4,.mk (some 15) none (.call 49 [.tmp 14,.const (.string (ByteArray.mk (Array.mk [UInt8.ofNat 59])))]),zm 13 15,zy 16 13 0,zy 17 13 1,zy 18 13 2,zm 4 16]) (.ref 2)
def T47n4:XC:=.seq (.blk 1 (.seq (.ops [zm 10 8,zd 11 1 6 8,zx 12 (.load [.str] false (.tmp 11)),zm 3 10,zm 4 12]) (.ref 3))) (.ops [zp 29 8,zm 8 29])
def T47n5:XC:=.seq (.cond (.tmp 9) .skip (.exit 0)) (.ref 4)
def T47n6:XC:=.seq (.ops [zk 9 .lss 8 7]) (.ref 5)
def T47n7:XC:=.seq (.ops [zx 5 (.load [.str] false (.tmp 1)),.mk (some 6) none (.call 48 [.tmp 5,.const (.string (ByteArray.mk (Array.mk [UInt8.ofNat 10])))]),ze 7 6,zx 8 (.mov (.const (.int .i64 0)))]) (.blk 0 (.loop (.ref 6)))
def T47:Nat→XC
 | 0=>T47n0
 | 1=>T47n1
 | 2=>T47n2
 | 3=>T47n3
 | 4=>T47n4
 | 5=>T47n5
 | 6=>T47n6
 | 7=>T47n7
 | _=>.skip
theorem t47n0:T47 0=T47n0:=rfl
theorem t47n1:T47 1=T47n1:=rfl
theorem t47n2:T47 2=T47n2:=rfl
theorem t47n3:T47 3=T47n3:=rfl
theorem t47n4:T47 4=T47n4:=rfl
theorem t47n5:T47 5=T47n5:=rfl
theorem t47n6:T47 6=T47n6:=rfl
theorem t47n7:T47 7=T47n7:=rfl
def X47:XC:=.scp (.seq (.lab) (.ref 7))
abbrev K47:List Nat:=[0,1,3,4,6,7,8,9,22,28]
theorem n47:Tryd.f47.ntmps=30:=by kernel_rfl
theorem r47:resT Tryd.f47.results.toList=some []:=by kernel_rfl
theorem x47:cmpF Tryd.prog Tryd.f47=some (expand T47 9 X47):=by kernel_rfl
def T52n0:XC:=.seq (.ops [zx 2 (.mov (.const (.bool true)))]) .ret
def T52n1:XC:=.seq (.ops [zx 2 (.mov (.const (.bool true)))]) .ret
def T52n2:XC:=.seq (.ops [zm 21 4,zm 22 0,zx 23 (.eqs .eql (.tmp 21) (.tmp 22))]) (.cond (.tmp 23) (.ref 1) .skip)
def T52n3:XC:=.ops [zm 11 3,zp 12 11,zm 3 12]
def T52n4:XC:=.seq (.blk 1 (.seq (.ops [zm 14 3,zx 15 (.build [.int .i64 0,.int .i64 0,.int .i64 0,.int .i64 0,.int .i64 0] [(0,1,.tmp 14)]),zc 16 17 [.tmp 15],.mk (some 17) none (.call 49 [.tmp 16,.const (.string (ByteArray.mk (Array.mk [UInt8.ofNat 32])))]),zm 13 17,zy 18 13 0,zy 19 13 1,zy 20 13 2,zm 4 18,zm 5 19,zm 6 20]) (.ref 2))) (.ref 3)
def T52n5:XC:=.seq (.seq (.ops [zm 9 3,zx 10 (.cmp .leq .i64 (.tmp 9) (.const (.int .i64 18)))]) (.cond (.tmp 10) .skip (.exit 0))) (.ref 4)
def T52n6:XC:=.seq (.ops [zx 2 (.mov (.const (.bool false)))]) .ret
def T52n7:XC:=.seq (.seq (.ops [zx 3 (.mov (.const (.int .i64 1)))]) (.blk 0 (.loop (.ref 5)))) (.ref 6)
def T52n8:XC:=.seq (.seq (.ops [zm 7 0,zx 8 (.eqs .eql (.tmp 7) (.const (.string (ByteArray.mk (Array.mk [UInt8.ofNat 114,UInt8.ofNat 97,UInt8.ofNat 119])))))]) (.cond (.tmp 8) (.ref 0) .skip)) (.ref 7)
def T52:Nat→XC
 | 0=>T52n0
 | 1=>T52n1
 | 2=>T52n2
 | 3=>T52n3
 | 4=>T52n4
 | 5=>T52n5
 | 6=>T52n6
 | 7=>T52n7
 | 8=>T52n8
 | _=>.skip
theorem t52n0:T52 0=T52n0:=rfl
theorem t52n1:T52 1=T52n1:=rfl
theorem t52n2:T52 2=T52n2:=rfl
theorem t52n3:T52 3=T52n3:=rfl
theorem t52n4:T52 4=T52n4:=rfl
theorem t52n5:T52 5=T52n5:=rfl
theorem t52n6:T52 6=T52n6:=rfl
theorem t52n7:T52 7=T52n7:=rfl
theorem t52n8:T52 8=T52n8:=rfl
def X52:XC:=.seq (.ops [zx 2 (.mov (.const (.bool false)))]) (.ref 8)
abbrev K52:List Nat:=[0,2,3,4,8,10,23]
theorem n52:Tryd.f52.ntmps=24:=by kernel_rfl
theorem r52:resT Tryd.f52.results.toList=some [2]:=by kernel_rfl
theorem x52:cmpF Tryd.prog Tryd.f52=some (expand T52 10 X52):=by kernel_rfl
def T25n0:XC:=.seq (.ops [zm 3 0,zx 4 (.cmp .eql .i64 (.tmp 3) (.const (.int .i64 13))),zm 5 4,zh 6 5 false 0,zg 7 5 false (.cmp .eql .i64 (.tmp 6) (.const (.int .i64 14))),zx 8 (.pick (.tmp 5) (.const (.bool true)) (.tmp 7)),zm 9 8,zh 10 9 false 0,zg 11 9 false (.cmp .eql .i64 (.tmp 10) (.const (.int .i64 15))),zx 12 (.pick (.tmp 9) (.const (.bool true)) (.tmp 11)),zm 13 12,zh 14 13 false 0,zg 15 13 false (.cmp .eql .i64 (.tmp 14) (.const (.int .i64 16))),zx 16 (.pick (.tmp 13) (.const (.bool true)) (.tmp 15)),zm 2 16]) .ret
def T25:Nat→XC
 | 0=>T25n0
 | _=>.skip
theorem t25n0:T25 0=T25n0:=rfl
def X25:XC:=.seq (.ops [zx 2 (.mov (.const (.bool false)))]) (.ref 0)
abbrev K25:List Nat:=[0,2]
theorem n25:Tryd.f25.ntmps=17:=by kernel_rfl
theorem r25:resT Tryd.f25.results.toList=some [2]:=by kernel_rfl
theorem x25:cmpF Tryd.prog Tryd.f25=some (expand T25 2 X25):=by kernel_rfl
attribute [go_sem] t11n0 t11n1 t11n2 t11n3 t11n4 t11n5 t11n6 t11n7 t11n8 t11n9 t11n10 t11n11 t11n12 t11n13 t11n14 t11n15 t11n16 t11n17 t11n18 T11n0 T11n1 T11n2 T11n3 T11n4 T11n5 T11n6 T11n7 T11n8 T11n9 T11n10 T11n11 T11n12 T11n13 T11n14 T11n15 T11n16 T11n17 T11n18 X11
attribute [go_sem] t23n0 t23n1 t23n2 t23n3 t23n4 t23n5 t23n6 t23n7 t23n8 t23n9 t23n10 t23n11 t23n12 t23n13 t23n14 t23n15 t23n16 T23n0 T23n1 T23n2 T23n3 T23n4 T23n5 T23n6 T23n7 T23n8 T23n9 T23n10 T23n11 T23n12 T23n13 T23n14 T23n15 T23n16 X23
attribute [go_sem] t24n0 t24n1 t24n2 t24n3 t24n4 t24n5 t24n6 t24n7 T24n0 T24n1 T24n2 T24n3 T24n4 T24n5 T24n6 T24n7 X24
attribute [go_sem] t36n0 T36n0 X36
attribute [go_sem] t38n0 t38n1 t38n2 t38n3 t38n4 t38n5 t38n6 t38n7 t38n8 t38n9 T38n0 T38n1 T38n2 T38n3 T38n4 T38n5 T38n6 T38n7 T38n8 T38n9 X38
attribute [go_sem] t39n0 t39n1 t39n2 t39n3 t39n4 t39n5 t39n6 t39n7 t39n8 t39n9 T39n0 T39n1 T39n2 T39n3 T39n4 T39n5 T39n6 T39n7 T39n8 T39n9 X39
attribute [go_sem] t40n0 t40n1 t40n2 t40n3 t40n4 t40n5 t40n6 T40n0 T40n1 T40n2 T40n3 T40n4 T40n5 T40n6 X40
attribute [go_sem] t47n0 t47n1 t47n2 t47n3 t47n4 t47n5 t47n6 t47n7 T47n0 T47n1 T47n2 T47n3 T47n4 T47n5 T47n6 T47n7 X47
attribute [go_sem] t52n0 t52n1 t52n2 t52n3 t52n4 t52n5 t52n6 t52n7 t52n8 T52n0 T52n1 T52n2 T52n3 T52n4 T52n5 T52n6 T52n7 T52n8 X52
attribute [go_sem] t25n0 T25n0 X25
end Go.Proofs.YtaiajnehnjnadaaDoor
