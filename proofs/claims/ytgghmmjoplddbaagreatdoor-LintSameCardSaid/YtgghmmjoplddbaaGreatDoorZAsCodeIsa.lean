/- Printed by program: the small code of functions, and that it is theirs. -/
import Derived.Test.YtgghmmjoplddbaaGreatDoorSxStill
import Derived.Test.YtgghmmjoplddbaaGreatDoorProg
import Derived.KernelRfl
set_option linter.unusedSimpArgs false
set_option linter.unusedVariables false
set_option linter.unnecessarySimpa false
namespace Go.Proofs.YtgghmmjoplddbaaGreatDoor
open Go Go.Sx
set_option maxRecDepth 100000
def T116n0:XC:=.seq (.ops [zi 26 6,zn (.store 5 (.tmp 2) (.tmp 26)),zx 3 (.mov (.const (.int .i64 0)))]) .ret
def T116n1:XC:=.seq (.ops [zm 25 7]) (.cond (.tmp 25) (.ref 0) .skip)
def T116n2:XC:=.seq (.ops [zx 27 (.build [.int .i64 0,.int .i64 0,.int .i64 0,.int .i64 0,.int .i64 0] []),zn (.store 5 (.tmp 2) (.tmp 27)),zx 3 (.mov (.const (.int .i64 2)))]) .ret
def T116n3:XC:=.seq (.seq (.ops [zm 20 5,zx 21 (.build [.int .i64 0,.int .i64 0,.int .i64 0,.int .i64 0,.int .i64 0] []),.mk (some 22) none (.callv (.tmp 20) [.tmp 21,.const (.string (ByteArray.mk (Array.mk [UInt8.ofNat 79,UInt8.ofNat 65,UInt8.ofNat 66,UInt8.ofNat 67,UInt8.ofNat 73])))]),zm 19 22,zy 23 19 0,zy 24 19 1,zx 6 (.alloc 47 [.int .i64 0,.int .i64 0,.int .i64 0,.int .i64 0,.int .i64 0]),zn (.store 5 (.tmp 6) (.tmp 23)),zm 7 24]) (.ref 1)) (.ref 2)
def T116n4:XC:=.seq (.ops [zi 53 10,zn (.store 5 (.tmp 2) (.tmp 53)),zx 3 (.mov (.const (.int .i64 0)))]) .ret
def T116n5:XC:=.seq (.ops [zm 52 11]) (.cond (.tmp 52) (.ref 4) .skip)
def T116n6:XC:=.seq (.ops [zm 44 5,zm 45 8,zx 46 (.build [.int .i64 0,.int .i64 0,.int .i64 0,.int .i64 0,.int .i64 0] [(0,1,.tmp 45)]),zf 47 1 9,zx 48 (.load [.str] false (.tmp 47)),.mk (some 49) none (.callv (.tmp 44) [.tmp 46,.tmp 48]),zm 43 49,zy 50 43 0,zy 51 43 1,zx 10 (.alloc 47 [.int .i64 0,.int .i64 0,.int .i64 0,.int .i64 0,.int .i64 0]),zn (.store 5 (.tmp 10) (.tmp 50)),zm 11 51]) (.ref 5)
def T116n7:XC:=.seq (.seq (.ops [zm 33 8,zx 34 (.cmp .lss .i64 (.tmp 33) (.const (.int .i64 1))),zm 35 34,zg 36 35 false (.fld 0 (.tmp 9)),zg 37 35 false (.load [.str] false (.tmp 36)),zg 38 35 false (.load [.slc] false (.tmp 4)),zg 39 35 false (.idx 1 (.tmp 38) (.const (.int .i64 0))),zg 40 35 false (.load [.str] false (.tmp 39)),zg 41 35 false (.eqs .neq (.tmp 37) (.tmp 40)),zx 42 (.pick (.tmp 35) (.const (.bool true)) (.tmp 41))]) (.cond (.tmp 42) (.exit 1) .skip)) (.ref 6)
def T116n8:XC:=.seq (.blk 1 (.seq (.ops [zm 31 29,zx 32 (.ixA 19 2 true (.tmp 28) (.tmp 29)),zx 9 (.alloc 113 [.string (ByteArray.mk (Array.mk [])),.string (ByteArray.mk (Array.mk []))]),zm 8 31,zn (.store 2 (.tmp 9) (.tmp 32))]) (.ref 7))) (.ops [zp 54 29,zm 29 54])
def T116n9:XC:=.seq (.cond (.tmp 30) .skip (.exit 0)) (.ref 8)
def T116n10:XC:=.seq (.ops [zx 30 (.cmp .lss .i64 (.tmp 29) (.const (.int .i64 19)))]) (.ref 9)
def T116n11:XC:=.seq (.ops [zx 55 (.build [.int .i64 0,.int .i64 0,.int .i64 0,.int .i64 0,.int .i64 0] []),zn (.store 5 (.tmp 2) (.tmp 55)),zx 3 (.mov (.const (.int .i64 2)))]) .ret
def T116n12:XC:=.seq (.seq (.ops [zx 28 (.load [.str,.str,.str,.str,.str,.str,.str,.str,.str,.str,.str,.str,.str,.str,.str,.str,.str,.str,.str,.str,.str,.str,.str,.str,.str,.str,.str,.str,.str,.str,.str,.str,.str,.str,.str,.str,.str,.str] true (.global 0)),zx 29 (.mov (.const (.int .i64 0)))]) (.blk 0 (.loop (.ref 10)))) (.ref 11)
def T116n13:XC:=.seq (.seq (.ops [zx 15 (.load [.slc] false (.tmp 4)),zx 16 (.idx 1 (.tmp 15) (.const (.int .i64 0))),zx 17 (.load [.str] false (.tmp 16)),zx 18 (.eqs .eql (.tmp 17) (.const (.string (ByteArray.mk (Array.mk [UInt8.ofNat 114,UInt8.ofNat 97,UInt8.ofNat 119])))))]) (.cond (.tmp 18) (.ref 3) .skip)) (.seq (.lab) (.ref 12))
def T116n14:XC:=.seq (.ops [zx 14 (.mkfn (.func 140) [] [.tmp 4,.tmp 1]),zm 5 14]) (.ref 13)
def T116n15:XC:=.scp (.seq (.ops [zx 12 (.load [.str] false (.tmp 1)),.mk (some 13) none (.call 111 [.tmp 12,.const (.string (ByteArray.mk (Array.mk [UInt8.ofNat 32])))]),zx 4 (.alloc 94 [.slice none 0 0]),zn (.store 1 (.tmp 4) (.tmp 13))]) (.ref 14))
def T116:Nat→XC
 | 0=>T116n0
 | 1=>T116n1
 | 2=>T116n2
 | 3=>T116n3
 | 4=>T116n4
 | 5=>T116n5
 | 6=>T116n6
 | 7=>T116n7
 | 8=>T116n8
 | 9=>T116n9
 | 10=>T116n10
 | 11=>T116n11
 | 12=>T116n12
 | 13=>T116n13
 | 14=>T116n14
 | 15=>T116n15
 | _=>.skip
theorem t116n0:T116 0=T116n0:=rfl
theorem t116n1:T116 1=T116n1:=rfl
theorem t116n2:T116 2=T116n2:=rfl
theorem t116n3:T116 3=T116n3:=rfl
theorem t116n4:T116 4=T116n4:=rfl
theorem t116n5:T116 5=T116n5:=rfl
theorem t116n6:T116 6=T116n6:=rfl
theorem t116n7:T116 7=T116n7:=rfl
theorem t116n8:T116 8=T116n8:=rfl
theorem t116n9:T116 9=T116n9:=rfl
theorem t116n10:T116 10=T116n10:=rfl
theorem t116n11:T116 11=T116n11:=rfl
theorem t116n12:T116 12=T116n12:=rfl
theorem t116n13:T116 13=T116n13:=rfl
theorem t116n14:T116 14=T116n14:=rfl
theorem t116n15:T116 15=T116n15:=rfl
def X116:XC:=.seq (.ops [zx 1 (.box 9 1 (.tmp 0)),zx 2 (.alloc 47 [.int .i64 0,.int .i64 0,.int .i64 0,.int .i64 0,.int .i64 0]),zx 3 (.mov (.const (.int .i64 0)))]) (.ref 15)
abbrev K116:List Nat:=[0,1,2,3,4,5,6,7,8,9,10,11,18,25,28,29,30,42,52]
theorem n116:Tryz.f116.ntmps=56:=by kernel_rfl
theorem r116:rvOf Tryz.prog Tryz.f116.results.toList=some [RV.cell 2 5 true,RV.tmp 3]:=by kernel_rfl
theorem x116:cmpF Tryz.prog Tryz.f116=some (expand T116 17 X116):=by kernel_rfl
def T139n0:XC:=.ops [zf 9 0 1,zl 10 9,zx 11 (.idxA 19 2 (.global 0) (.tmp 10)),zf 12 0 11,zx 13 (.load [.str] false (.tmp 12)),zf 14 0 1,zl 15 14,zx 16 (.idxA 19 2 (.global 0) (.tmp 15)),zf 17 1 16,zx 18 (.load [.str] false (.tmp 17)),zm 3 13,zm 4 18]
def T139n1:XC:=.ops [zm 26 3,zm 27 6,zc 28 142 [.tmp 1,.tmp 27],zx 29 (.nilc (.tmp 28)),zl 30 29,zc 31 68 [.tmp 30],zx 32 (.cat (.const (.string (ByteArray.mk (Array.mk [UInt8.ofNat 32])))) (.tmp 31)),zx 33 (.cat (.tmp 26) (.tmp 32)),zm 3 33]
def T139n2:XC:=.seq (.blk 1 (.seq (.ops [zd 24 1 20 22,zx 25 (.load [.int .u8] false (.tmp 24)),zm 6 25]) (.ref 1))) (.ops [zp 34 22,zm 22 34])
def T139n3:XC:=.seq (.cond (.tmp 23) .skip (.exit 0)) (.ref 2)
def T139n4:XC:=.seq (.ops [zk 23 .lss 22 21]) (.ref 3)
def T139n5:XC:=.seq (.ops [zm 35 3,zm 2 35]) .ret
def T139n6:XC:=.seq (.seq (.ops [zm 19 4,zx 20 (.s2b 5 (.tmp 19)),ze 21 20,zx 22 (.mov (.const (.int .i64 0)))]) (.blk 0 (.loop (.ref 4)))) (.ref 5)
def T139n7:XC:=.seq (.seq (.ops [zi 7 1,zc 8 167 [.tmp 7]]) (.cond (.tmp 8) (.ref 0) .skip)) (.ref 6)
def T139n8:XC:=.seq (.ops [zx 3 (.mov (.const (.string (ByteArray.mk (Array.mk [UInt8.ofNat 114,UInt8.ofNat 97,UInt8.ofNat 119]))))),zx 4 (.mov (.const (.string (ByteArray.mk (Array.mk [UInt8.ofNat 79,UInt8.ofNat 65,UInt8.ofNat 66,UInt8.ofNat 67,UInt8.ofNat 73])))))]) (.ref 7)
def T139:Nat→XC
 | 0=>T139n0
 | 1=>T139n1
 | 2=>T139n2
 | 3=>T139n3
 | 4=>T139n4
 | 5=>T139n5
 | 6=>T139n6
 | 7=>T139n7
 | 8=>T139n8
 | _=>.skip
theorem t139n0:T139 0=T139n0:=rfl
theorem t139n1:T139 1=T139n1:=rfl
theorem t139n2:T139 2=T139n2:=rfl
theorem t139n3:T139 3=T139n3:=rfl
theorem t139n4:T139 4=T139n4:=rfl
theorem t139n5:T139 5=T139n5:=rfl
theorem t139n6:T139 6=T139n6:=rfl
theorem t139n7:T139 7=T139n7:=rfl
theorem t139n8:T139 8=T139n8:=rfl
def X139:XC:=.seq (.ops [zx 1 (.box 47 5 (.tmp 0)),zx 2 (.mov (.const (.string (ByteArray.mk (Array.mk [])))))]) (.ref 8)
abbrev K139:List Nat:=[0,1,2,3,4,6,8,20,21,22,23]
theorem n139:Tryz.f139.ntmps=36:=by kernel_rfl
theorem r139:resT Tryz.f139.results.toList=some [2]:=by kernel_rfl
theorem x139:cmpF Tryz.prog Tryz.f139=some (expand T139 10 X139):=by kernel_rfl
def T140n0:XC:=.seq (.ops [zi 18 4,zn (.store 5 (.tmp 6) (.tmp 18)),zx 7 (.mov (.const (.bool false)))]) .ret
def T140n1:XC:=.seq (.ops [zi 34 4,zn (.store 5 (.tmp 6) (.tmp 34)),zx 7 (.mov (.const (.bool false)))]) .ret
def T140n2:XC:=.ops [zm 35 1,zm 36 8,zx 37 (.ixT (.tmp 35) (.tmp 36)),zc 38 142 [.tmp 4,.tmp 37],zm 39 10,zx 40 (.nilc (.tmp 38)),zn (.store 1 (.tmp 40) (.tmp 39))]
def T140n3:XC:=.seq (.seq (.ops [zm 32 11,zx 33 (.eqif true 215 (.tmp 32) (.const .nilIface))]) (.cond (.tmp 33) (.ref 1) .skip)) (.ref 2)
def T140n4:XC:=.seq (.ops [zm 28 9,zc 29 141 [.tmp 28],zm 27 29,zy 30 27 0,zy 31 27 1,zm 10 30,zm 11 31]) (.ref 3)
def T140n5:XC:=.seq (.blk 1 (.seq (.ops [zm 24 22,zd 25 1 20 22,zx 26 (.load [.str] false (.tmp 25)),zm 8 24,zm 9 26]) (.ref 4))) (.ops [zp 41 22,zm 22 41])
def T140n6:XC:=.seq (.cond (.tmp 23) .skip (.exit 0)) (.ref 5)
def T140n7:XC:=.seq (.ops [zk 23 .lss 22 21]) (.ref 6)
def T140n8:XC:=.seq (.ops [zi 42 4,zi 43 4,zx 45 (.load [.str] false (.tmp 3)),zc 44 139 [.tmp 43],.mk none none (.still 45 (.load [.str] false (.tmp 3))),.mk none none (.still 42 (.load [.int .i64,.int .i64,.int .i64,.int .i64,.int .i64] true (.tmp 4))),zx 46 (.eqs .eql (.tmp 44) (.tmp 45)),zn (.store 5 (.tmp 6) (.tmp 42)),.mk none none (.still 45 (.load [.str] false (.tmp 3))),zm 7 46]) .ret
def T140n9:XC:=.seq (.seq (.ops [zx 19 (.load [.slc] false (.tmp 2)),zx 20 (.sub 1 (.tmp 19) (some (.const (.int .i64 1))) none),ze 21 20,zx 22 (.mov (.const (.int .i64 0)))]) (.blk 0 (.loop (.ref 7)))) (.ref 8)
def T140n10:XC:=.seq (.seq (.ops [zx 12 (.load [.slc] false (.tmp 2)),ze 13 12,zm 14 1,zx 15 (.lenT (.tmp 14)),zp 16 15,zk 17 .neq 13 16]) (.cond (.tmp 17) (.ref 0) .skip)) (.ref 9)
def T140:Nat→XC
 | 0=>T140n0
 | 1=>T140n1
 | 2=>T140n2
 | 3=>T140n3
 | 4=>T140n4
 | 5=>T140n5
 | 6=>T140n6
 | 7=>T140n7
 | 8=>T140n8
 | 9=>T140n9
 | 10=>T140n10
 | _=>.skip
theorem t140n0:T140 0=T140n0:=rfl
theorem t140n1:T140 1=T140n1:=rfl
theorem t140n2:T140 2=T140n2:=rfl
theorem t140n3:T140 3=T140n3:=rfl
theorem t140n4:T140 4=T140n4:=rfl
theorem t140n5:T140 5=T140n5:=rfl
theorem t140n6:T140 6=T140n6:=rfl
theorem t140n7:T140 7=T140n7:=rfl
theorem t140n8:T140 8=T140n8:=rfl
theorem t140n9:T140 9=T140n9:=rfl
theorem t140n10:T140 10=T140n10:=rfl
def X140:XC:=.seq (.ops [zx 4 (.box 47 5 (.tmp 0)),zx 6 (.alloc 47 [.int .i64 0,.int .i64 0,.int .i64 0,.int .i64 0,.int .i64 0]),zx 7 (.mov (.const (.bool false)))]) (.ref 10)
abbrev K140:List Nat:=[0,1,2,3,4,6,7,8,9,10,11,17,20,21,22,23,33]
theorem n140:Tryz.f140.ntmps=47:=by kernel_rfl
theorem r140:rvOf Tryz.prog Tryz.f140.results.toList=some [RV.cell 6 5 true,RV.tmp 7]:=by kernel_rfl
theorem x140:cmpF Tryz.prog Tryz.f140=some (expand T140 12 X140):=by kernel_rfl
def T142n0:XC:=.seq (.ops [zm 8 0,zx 9 (.nilc (.tmp 8)),zf 10 1 9,zm 4 10]) .ret
def T142n1:XC:=.seq (.ops [zm 13 0,zx 14 (.nilc (.tmp 13)),zf 15 2 14,zm 4 15]) .ret
def T142n2:XC:=.seq (.ops [zm 18 0,zx 19 (.nilc (.tmp 18)),zf 20 3 19,zm 4 20]) .ret
def T142n3:XC:=.seq (.ops [zm 23 0,zx 24 (.nilc (.tmp 23)),zf 25 4 24,zm 4 25]) .ret
def T142n4:XC:=.seq (.ops [zx 22 (.cmp .eql .u8 (.tmp 5) (.const (.int .u8 73))),zm 21 22]) (.cond (.tmp 21) (.ref 3) .skip)
def T142n5:XC:=.seq (.ops [zx 17 (.cmp .eql .u8 (.tmp 5) (.const (.int .u8 67))),zm 16 17]) (.cond (.tmp 16) (.ref 2) (.ref 4))
def T142n6:XC:=.seq (.ops [zx 12 (.cmp .eql .u8 (.tmp 5) (.const (.int .u8 66))),zm 11 12]) (.cond (.tmp 11) (.ref 1) (.ref 5))
def T142n7:XC:=.blk 0 (.seq (.ops [zx 7 (.cmp .eql .u8 (.tmp 5) (.const (.int .u8 65))),zm 6 7]) (.cond (.tmp 6) (.ref 0) (.ref 6)))
def T142n8:XC:=.seq (.ops [zm 26 0,zx 27 (.nilc (.tmp 26)),zf 28 0 27,zm 4 28]) .ret
def T142n9:XC:=.seq (.seq (.ops [zm 5 1]) (.ref 7)) (.ref 8)
def T142:Nat→XC
 | 0=>T142n0
 | 1=>T142n1
 | 2=>T142n2
 | 3=>T142n3
 | 4=>T142n4
 | 5=>T142n5
 | 6=>T142n6
 | 7=>T142n7
 | 8=>T142n8
 | 9=>T142n9
 | _=>.skip
theorem t142n0:T142 0=T142n0:=rfl
theorem t142n1:T142 1=T142n1:=rfl
theorem t142n2:T142 2=T142n2:=rfl
theorem t142n3:T142 3=T142n3:=rfl
theorem t142n4:T142 4=T142n4:=rfl
theorem t142n5:T142 5=T142n5:=rfl
theorem t142n6:T142 6=T142n6:=rfl
theorem t142n7:T142 7=T142n7:=rfl
theorem t142n8:T142 8=T142n8:=rfl
theorem t142n9:T142 9=T142n9:=rfl
def X142:XC:=.seq (.ops [zx 4 (.mov (.const (.pointer none)))]) (.ref 9)
abbrev K142:List Nat:=[0,1,4,5,6,11,16,21]
theorem n142:Tryz.f142.ntmps=29:=by kernel_rfl
theorem r142:resT Tryz.f142.results.toList=some [4]:=by kernel_rfl
theorem x142:cmpF Tryz.prog Tryz.f142=some (expand T142 11 X142):=by kernel_rfl
def T167n0:XC:=.seq (.ops [zx 2 (.mov (.const (.bool false)))]) .ret
def T167n1:XC:=.seq (.ops [zx 2 (.mov (.const (.bool false)))]) .ret
def T167n2:XC:=.seq (.ops [zf 15 0 1,zl 16 15,zx 17 (.idxA 19 2 (.global 0) (.tmp 16)),zf 18 1 17,zx 19 (.load [.str] false (.tmp 18)),zm 20 4,zc 21 31 [.tmp 19,.tmp 20],zx 22 (.cmp .lss .i64 (.tmp 21) (.const (.int .i64 0))),zm 23 22,zh 24 23 true 4,.mk (some 25) (some (23,true)) (.call 142 [.tmp 1,.tmp 24]),zg 26 23 true (.nilc (.tmp 25)),zg 27 23 true (.load [.int .i64] false (.tmp 26)),zg 28 23 true (.cmp .neq .i64 (.tmp 27) (.const (.int .i64 0))),zx 29 (.pick (.tmp 23) (.tmp 28) (.const (.bool false)))]) (.cond (.tmp 29) (.ref 1) .skip)
def T167n3:XC:=.seq (.blk 1 (.seq (.ops [zd 13 1 9 11,zx 14 (.load [.int .u8] false (.tmp 13)),zm 4 14]) (.ref 2))) (.ops [zp 30 11,zm 11 30])
def T167n4:XC:=.seq (.cond (.tmp 12) .skip (.exit 0)) (.ref 3)
def T167n5:XC:=.seq (.ops [zk 12 .lss 11 10]) (.ref 4)
def T167n6:XC:=.seq (.ops [zx 2 (.mov (.const (.bool true)))]) .ret
def T167n7:XC:=.seq (.seq (.ops [zx 8 (.buildS 5 4 1 [.int .u8 0] [(0,.const (.int .u8 65)),(1,.const (.int .u8 66)),(2,.const (.int .u8 67)),(3,.const (.int .u8 73))]),zx 9 (.mrk (.tmp 8)),ze 10 9,zx 11 (.mov (.const (.int .i64 0)))]) (.blk 0 (.loop (.ref 5)))) (.ref 6)
def T167n8:XC:=.seq (.seq (.ops [zi 5 1,zc 6 11 [.tmp 5],zx 7 (.not (.tmp 6))]) (.cond (.tmp 7) (.ref 0) .skip)) (.ref 7)
def T167:Nat→XC
 | 0=>T167n0
 | 1=>T167n1
 | 2=>T167n2
 | 3=>T167n3
 | 4=>T167n4
 | 5=>T167n5
 | 6=>T167n6
 | 7=>T167n7
 | 8=>T167n8
 | _=>.skip
theorem t167n0:T167 0=T167n0:=rfl
theorem t167n1:T167 1=T167n1:=rfl
theorem t167n2:T167 2=T167n2:=rfl
theorem t167n3:T167 3=T167n3:=rfl
theorem t167n4:T167 4=T167n4:=rfl
theorem t167n5:T167 5=T167n5:=rfl
theorem t167n6:T167 6=T167n6:=rfl
theorem t167n7:T167 7=T167n7:=rfl
theorem t167n8:T167 8=T167n8:=rfl
def X167:XC:=.seq (.ops [zx 1 (.box 47 5 (.tmp 0)),zx 2 (.mov (.const (.bool false)))]) (.ref 8)
abbrev K167:List Nat:=[0,1,2,4,7,9,10,11,12,29]
theorem n167:Tryz.f167.ntmps=31:=by kernel_rfl
theorem r167:resT Tryz.f167.results.toList=some [2]:=by kernel_rfl
theorem x167:cmpF Tryz.prog Tryz.f167=some (expand T167 10 X167):=by kernel_rfl
attribute [go_sem] t116n0 t116n1 t116n2 t116n3 t116n4 t116n5 t116n6 t116n7 t116n8 t116n9 t116n10 t116n11 t116n12 t116n13 t116n14 t116n15 T116n0 T116n1 T116n2 T116n3 T116n4 T116n5 T116n6 T116n7 T116n8 T116n9 T116n10 T116n11 T116n12 T116n13 T116n14 T116n15 X116
attribute [go_sem] t139n0 t139n1 t139n2 t139n3 t139n4 t139n5 t139n6 t139n7 t139n8 T139n0 T139n1 T139n2 T139n3 T139n4 T139n5 T139n6 T139n7 T139n8 X139
attribute [go_sem] t140n0 t140n1 t140n2 t140n3 t140n4 t140n5 t140n6 t140n7 t140n8 t140n9 t140n10 T140n0 T140n1 T140n2 T140n3 T140n4 T140n5 T140n6 T140n7 T140n8 T140n9 T140n10 X140
attribute [go_sem] t142n0 t142n1 t142n2 t142n3 t142n4 t142n5 t142n6 t142n7 t142n8 t142n9 T142n0 T142n1 T142n2 T142n3 T142n4 T142n5 T142n6 T142n7 T142n8 T142n9 X142
attribute [go_sem] t167n0 t167n1 t167n2 t167n3 t167n4 t167n5 t167n6 t167n7 t167n8 T167n0 T167n1 T167n2 T167n3 T167n4 T167n5 T167n6 T167n7 T167n8 X167
end Go.Proofs.YtgghmmjoplddbaaGreatDoor
