/- Printed by program: the small code of functions, and that it is theirs. -/
import Derived.Test.YtaiajnehnjnadaaGreatDoorSxStill
import Derived.Test.YtaiajnehnjnadaaGreatDoorProg
import Derived.KernelRfl
set_option linter.unusedSimpArgs false
set_option linter.unusedVariables false
set_option linter.unnecessarySimpa false
namespace Go.Proofs.YtaiajnehnjnadaaGreatDoor
open Go Go.Sx
set_option maxRecDepth 100000
def T30n0:XC:=.seq (.ops [zi 26 6,zn (.store 5 (.tmp 2) (.tmp 26)),zx 3 (.mov (.const (.int .i64 0)))]) .ret
def T30n1:XC:=.seq (.ops [zm 25 7]) (.cond (.tmp 25) (.ref 0) .skip)
def T30n2:XC:=.seq (.ops [zx 27 (.build [.int .i64 0,.int .i64 0,.int .i64 0,.int .i64 0,.int .i64 0] []),zn (.store 5 (.tmp 2) (.tmp 27)),zx 3 (.mov (.const (.int .i64 2)))]) .ret
def T30n3:XC:=.seq (.seq (.ops [zm 20 5,zx 21 (.build [.int .i64 0,.int .i64 0,.int .i64 0,.int .i64 0,.int .i64 0] []),.mk (some 22) none (.callv (.tmp 20) [.tmp 21,.const (.string (ByteArray.mk (Array.mk [UInt8.ofNat 79,UInt8.ofNat 65,UInt8.ofNat 66,UInt8.ofNat 67,UInt8.ofNat 73])))]),zm 19 22,zy 23 19 0,zy 24 19 1,zx 6 (.alloc 43 [.int .i64 0,.int .i64 0,.int .i64 0,.int .i64 0,.int .i64 0]),zn (.store 5 (.tmp 6) (.tmp 23)),zm 7 24]) (.ref 1)) (.ref 2)
def T30n4:XC:=.seq (.ops [zi 53 10,zn (.store 5 (.tmp 2) (.tmp 53)),zx 3 (.mov (.const (.int .i64 0)))]) .ret
def T30n5:XC:=.seq (.ops [zm 52 11]) (.cond (.tmp 52) (.ref 4) .skip)
def T30n6:XC:=.seq (.ops [zm 44 5,zm 45 8,zx 46 (.build [.int .i64 0,.int .i64 0,.int .i64 0,.int .i64 0,.int .i64 0] [(0,1,.tmp 45)]),zf 47 1 9,zx 48 (.load [.str] false (.tmp 47)),.mk (some 49) none (.callv (.tmp 44) [.tmp 46,.tmp 48]),zm 43 49,zy 50 43 0,zy 51 43 1,zx 10 (.alloc 43 [.int .i64 0,.int .i64 0,.int .i64 0,.int .i64 0,.int .i64 0]),zn (.store 5 (.tmp 10) (.tmp 50)),zm 11 51]) (.ref 5)
def T30n7:XC:=.seq (.seq (.ops [zm 33 8,zx 34 (.cmp .lss .i64 (.tmp 33) (.const (.int .i64 1))),zm 35 34,zg 36 35 false (.fld 0 (.tmp 9)),zg 37 35 false (.load [.str] false (.tmp 36)),zg 38 35 false (.load [.slc] false (.tmp 4)),zg 39 35 false (.idx 1 (.tmp 38) (.const (.int .i64 0))),zg 40 35 false (.load [.str] false (.tmp 39)),zg 41 35 false (.eqs .neq (.tmp 37) (.tmp 40)),zx 42 (.pick (.tmp 35) (.const (.bool true)) (.tmp 41))]) (.cond (.tmp 42) (.exit 1) .skip)) (.ref 6)
def T30n8:XC:=.seq (.blk 1 (.seq (.ops [zm 31 29,zx 32 (.ixA 19 2 true (.tmp 28) (.tmp 29)),zx 9 (.alloc 102 [.string (ByteArray.mk (Array.mk [])),.string (ByteArray.mk (Array.mk []))]),zm 8 31,zn (.store 2 (.tmp 9) (.tmp 32))]) (.ref 7))) (.ops [zp 54 29,zm 29 54])
def T30n9:XC:=.seq (.cond (.tmp 30) .skip (.exit 0)) (.ref 8)
def T30n10:XC:=.seq (.ops [zx 30 (.cmp .lss .i64 (.tmp 29) (.const (.int .i64 19)))]) (.ref 9)
def T30n11:XC:=.seq (.ops [zx 55 (.build [.int .i64 0,.int .i64 0,.int .i64 0,.int .i64 0,.int .i64 0] []),zn (.store 5 (.tmp 2) (.tmp 55)),zx 3 (.mov (.const (.int .i64 2)))]) .ret
def T30n12:XC:=.seq (.seq (.ops [zx 28 (.load [.str,.str,.str,.str,.str,.str,.str,.str,.str,.str,.str,.str,.str,.str,.str,.str,.str,.str,.str,.str,.str,.str,.str,.str,.str,.str,.str,.str,.str,.str,.str,.str,.str,.str,.str,.str,.str,.str] true (.global 0)),zx 29 (.mov (.const (.int .i64 0)))]) (.blk 0 (.loop (.ref 10)))) (.ref 11)
def T30n13:XC:=.seq (.seq (.ops [zx 15 (.load [.slc] false (.tmp 4)),zx 16 (.idx 1 (.tmp 15) (.const (.int .i64 0))),zx 17 (.load [.str] false (.tmp 16)),zx 18 (.eqs .eql (.tmp 17) (.const (.string (ByteArray.mk (Array.mk [UInt8.ofNat 114,UInt8.ofNat 97,UInt8.ofNat 119])))))]) (.cond (.tmp 18) (.ref 3) .skip)) (.seq (.lab) (.ref 12))
def T30n14:XC:=.seq (.ops [zx 14 (.mkfn (.func 52) [] [.tmp 4,.tmp 1]),zm 5 14]) (.ref 13)
def T30n15:XC:=.scp (.seq (.ops [zx 12 (.load [.str] false (.tmp 1)),.mk (some 13) none (.call 25 [.tmp 12,.const (.string (ByteArray.mk (Array.mk [UInt8.ofNat 32])))]),zx 4 (.alloc 48 [.slice none 0 0]),zn (.store 1 (.tmp 4) (.tmp 13))]) (.ref 14))
def T30:Nat→XC
 | 0=>T30n0
 | 1=>T30n1
 | 2=>T30n2
 | 3=>T30n3
 | 4=>T30n4
 | 5=>T30n5
 | 6=>T30n6
 | 7=>T30n7
 | 8=>T30n8
 | 9=>T30n9
 | 10=>T30n10
 | 11=>T30n11
 | 12=>T30n12
 | 13=>T30n13
 | 14=>T30n14
 | 15=>T30n15
 | _=>.skip
theorem t30n0:T30 0=T30n0:=rfl
theorem t30n1:T30 1=T30n1:=rfl
theorem t30n2:T30 2=T30n2:=rfl
theorem t30n3:T30 3=T30n3:=rfl
theorem t30n4:T30 4=T30n4:=rfl
theorem t30n5:T30 5=T30n5:=rfl
theorem t30n6:T30 6=T30n6:=rfl
theorem t30n7:T30 7=T30n7:=rfl
theorem t30n8:T30 8=T30n8:=rfl
theorem t30n9:T30 9=T30n9:=rfl
theorem t30n10:T30 10=T30n10:=rfl
theorem t30n11:T30 11=T30n11:=rfl
theorem t30n12:T30 12=T30n12:=rfl
theorem t30n13:T30 13=T30n13:=rfl
theorem t30n14:T30 14=T30n14:=rfl
theorem t30n15:T30 15=T30n15:=rfl
def X30:XC:=.seq (.ops [zx 1 (.box 9 1 (.tmp 0)),zx 2 (.alloc 43 [.int .i64 0,.int .i64 0,.int .i64 0,.int .i64 0,.int .i64 0]),zx 3 (.mov (.const (.int .i64 0)))]) (.ref 15)
abbrev K30:List Nat:=[0,1,2,3,4,5,6,7,8,9,10,11,18,25,28,29,30,42,52]
theorem n30:Tryz.f30.ntmps=56:=by kernel_rfl
theorem r30:rvOf Tryz.prog Tryz.f30.results.toList=some [RV.cell 2 5 true,RV.tmp 3]:=by kernel_rfl
theorem x30:cmpF Tryz.prog Tryz.f30=some (expand T30 17 X30):=by kernel_rfl
def T51n0:XC:=.ops [zf 9 0 1,zl 10 9,zx 11 (.idxA 19 2 (.global 0) (.tmp 10)),zf 12 0 11,zx 13 (.load [.str] false (.tmp 12)),zf 14 0 1,zl 15 14,zx 16 (.idxA 19 2 (.global 0) (.tmp 15)),zf 17 1 16,zx 18 (.load [.str] false (.tmp 17)),zm 3 13,zm 4 18]
def T51n1:XC:=.ops [zm 26 3,zm 27 6,zc 28 54 [.tmp 1,.tmp 27],zx 29 (.nilc (.tmp 28)),zl 30 29,zc 31 69 [.tmp 30],zx 32 (.cat (.const (.string (ByteArray.mk (Array.mk [UInt8.ofNat 32])))) (.tmp 31)),zx 33 (.cat (.tmp 26) (.tmp 32)),zm 3 33]
def T51n2:XC:=.seq (.blk 1 (.seq (.ops [zd 24 1 20 22,zx 25 (.load [.int .u8] false (.tmp 24)),zm 6 25]) (.ref 1))) (.ops [zp 34 22,zm 22 34])
def T51n3:XC:=.seq (.cond (.tmp 23) .skip (.exit 0)) (.ref 2)
def T51n4:XC:=.seq (.ops [zk 23 .lss 22 21]) (.ref 3)
def T51n5:XC:=.seq (.ops [zm 35 3,zm 2 35]) .ret
def T51n6:XC:=.seq (.seq (.ops [zm 19 4,zx 20 (.s2b 5 (.tmp 19)),ze 21 20,zx 22 (.mov (.const (.int .i64 0)))]) (.blk 0 (.loop (.ref 4)))) (.ref 5)
def T51n7:XC:=.seq (.seq (.ops [zi 7 1,zc 8 68 [.tmp 7]]) (.cond (.tmp 8) (.ref 0) .skip)) (.ref 6)
def T51n8:XC:=.seq (.ops [zx 3 (.mov (.const (.string (ByteArray.mk (Array.mk [UInt8.ofNat 114,UInt8.ofNat 97,UInt8.ofNat 119]))))),zx 4 (.mov (.const (.string (ByteArray.mk (Array.mk [UInt8.ofNat 79,UInt8.ofNat 65,UInt8.ofNat 66,UInt8.ofNat 67,UInt8.ofNat 73])))))]) (.ref 7)
def T51:Nat→XC
 | 0=>T51n0
 | 1=>T51n1
 | 2=>T51n2
 | 3=>T51n3
 | 4=>T51n4
 | 5=>T51n5
 | 6=>T51n6
 | 7=>T51n7
 | 8=>T51n8
 | _=>.skip
theorem t51n0:T51 0=T51n0:=rfl
theorem t51n1:T51 1=T51n1:=rfl
theorem t51n2:T51 2=T51n2:=rfl
theorem t51n3:T51 3=T51n3:=rfl
theorem t51n4:T51 4=T51n4:=rfl
theorem t51n5:T51 5=T51n5:=rfl
theorem t51n6:T51 6=T51n6:=rfl
theorem t51n7:T51 7=T51n7:=rfl
theorem t51n8:T51 8=T51n8:=rfl
def X51:XC:=.seq (.ops [zx 1 (.box 43 5 (.tmp 0)),zx 2 (.mov (.const (.string (ByteArray.mk (Array.mk [])))))]) (.ref 8)
abbrev K51:List Nat:=[0,1,2,3,4,6,8,20,21,22,23]
theorem n51:Tryz.f51.ntmps=36:=by kernel_rfl
theorem r51:resT Tryz.f51.results.toList=some [2]:=by kernel_rfl
theorem x51:cmpF Tryz.prog Tryz.f51=some (expand T51 10 X51):=by kernel_rfl
def T52n0:XC:=.seq (.ops [zi 18 4,zn (.store 5 (.tmp 6) (.tmp 18)),zx 7 (.mov (.const (.bool false)))]) .ret
def T52n1:XC:=.seq (.ops [zi 34 4,zn (.store 5 (.tmp 6) (.tmp 34)),zx 7 (.mov (.const (.bool false)))]) .ret
def T52n2:XC:=.ops [zm 35 1,zm 36 8,zx 37 (.ixT (.tmp 35) (.tmp 36)),zc 38 54 [.tmp 4,.tmp 37],zm 39 10,zx 40 (.nilc (.tmp 38)),zn (.store 1 (.tmp 40) (.tmp 39))]
def T52n3:XC:=.seq (.seq (.ops [zm 32 11,zx 33 (.eqif true 93 (.tmp 32) (.const .nilIface))]) (.cond (.tmp 33) (.ref 1) .skip)) (.ref 2)
def T52n4:XC:=.seq (.ops [zm 28 9,zc 29 53 [.tmp 28],zm 27 29,zy 30 27 0,zy 31 27 1,zm 10 30,zm 11 31]) (.ref 3)
def T52n5:XC:=.seq (.blk 1 (.seq (.ops [zm 24 22,zd 25 1 20 22,zx 26 (.load [.str] false (.tmp 25)),zm 8 24,zm 9 26]) (.ref 4))) (.ops [zp 41 22,zm 22 41])
def T52n6:XC:=.seq (.cond (.tmp 23) .skip (.exit 0)) (.ref 5)
def T52n7:XC:=.seq (.ops [zk 23 .lss 22 21]) (.ref 6)
def T52n8:XC:=.seq (.ops [zi 42 4,zi 43 4,zx 45 (.load [.str] false (.tmp 3)),zc 44 51 [.tmp 43],.mk none none (.still 45 (.load [.str] false (.tmp 3))),.mk none none (.still 42 (.load [.int .i64,.int .i64,.int .i64,.int .i64,.int .i64] true (.tmp 4))),zx 46 (.eqs .eql (.tmp 44) (.tmp 45)),zn (.store 5 (.tmp 6) (.tmp 42)),.mk none none (.still 45 (.load [.str] false (.tmp 3))),zm 7 46]) .ret
def T52n9:XC:=.seq (.seq (.ops [zx 19 (.load [.slc] false (.tmp 2)),zx 20 (.sub 1 (.tmp 19) (some (.const (.int .i64 1))) none),ze 21 20,zx 22 (.mov (.const (.int .i64 0)))]) (.blk 0 (.loop (.ref 7)))) (.ref 8)
def T52n10:XC:=.seq (.seq (.ops [zx 12 (.load [.slc] false (.tmp 2)),ze 13 12,zm 14 1,zx 15 (.lenT (.tmp 14)),zp 16 15,zk 17 .neq 13 16]) (.cond (.tmp 17) (.ref 0) .skip)) (.ref 9)
def T52:Nat→XC
 | 0=>T52n0
 | 1=>T52n1
 | 2=>T52n2
 | 3=>T52n3
 | 4=>T52n4
 | 5=>T52n5
 | 6=>T52n6
 | 7=>T52n7
 | 8=>T52n8
 | 9=>T52n9
 | 10=>T52n10
 | _=>.skip
theorem t52n0:T52 0=T52n0:=rfl
theorem t52n1:T52 1=T52n1:=rfl
theorem t52n2:T52 2=T52n2:=rfl
theorem t52n3:T52 3=T52n3:=rfl
theorem t52n4:T52 4=T52n4:=rfl
theorem t52n5:T52 5=T52n5:=rfl
theorem t52n6:T52 6=T52n6:=rfl
theorem t52n7:T52 7=T52n7:=rfl
theorem t52n8:T52 8=T52n8:=rfl
theorem t52n9:T52 9=T52n9:=rfl
theorem t52n10:T52 10=T52n10:=rfl
def X52:XC:=.seq (.ops [zx 4 (.box 43 5 (.tmp 0)),zx 6 (.alloc 43 [.int .i64 0,.int .i64 0,.int .i64 0,.int .i64 0,.int .i64 0]),zx 7 (.mov (.const (.bool false)))]) (.ref 10)
abbrev K52:List Nat:=[0,1,2,3,4,6,7,8,9,10,11,17,20,21,22,23,33]
theorem n52:Tryz.f52.ntmps=47:=by kernel_rfl
theorem r52:rvOf Tryz.prog Tryz.f52.results.toList=some [RV.cell 6 5 true,RV.tmp 7]:=by kernel_rfl
theorem x52:cmpF Tryz.prog Tryz.f52=some (expand T52 12 X52):=by kernel_rfl
def T54n0:XC:=.seq (.ops [zm 8 0,zx 9 (.nilc (.tmp 8)),zf 10 1 9,zm 4 10]) .ret
def T54n1:XC:=.seq (.ops [zm 13 0,zx 14 (.nilc (.tmp 13)),zf 15 2 14,zm 4 15]) .ret
def T54n2:XC:=.seq (.ops [zm 18 0,zx 19 (.nilc (.tmp 18)),zf 20 3 19,zm 4 20]) .ret
def T54n3:XC:=.seq (.ops [zm 23 0,zx 24 (.nilc (.tmp 23)),zf 25 4 24,zm 4 25]) .ret
def T54n4:XC:=.seq (.ops [zx 22 (.cmp .eql .u8 (.tmp 5) (.const (.int .u8 73))),zm 21 22]) (.cond (.tmp 21) (.ref 3) .skip)
def T54n5:XC:=.seq (.ops [zx 17 (.cmp .eql .u8 (.tmp 5) (.const (.int .u8 67))),zm 16 17]) (.cond (.tmp 16) (.ref 2) (.ref 4))
def T54n6:XC:=.seq (.ops [zx 12 (.cmp .eql .u8 (.tmp 5) (.const (.int .u8 66))),zm 11 12]) (.cond (.tmp 11) (.ref 1) (.ref 5))
def T54n7:XC:=.blk 0 (.seq (.ops [zx 7 (.cmp .eql .u8 (.tmp 5) (.const (.int .u8 65))),zm 6 7]) (.cond (.tmp 6) (.ref 0) (.ref 6)))
def T54n8:XC:=.seq (.ops [zm 26 0,zx 27 (.nilc (.tmp 26)),zf 28 0 27,zm 4 28]) .ret
def T54n9:XC:=.seq (.seq (.ops [zm 5 1]) (.ref 7)) (.ref 8)
def T54:Nat→XC
 | 0=>T54n0
 | 1=>T54n1
 | 2=>T54n2
 | 3=>T54n3
 | 4=>T54n4
 | 5=>T54n5
 | 6=>T54n6
 | 7=>T54n7
 | 8=>T54n8
 | 9=>T54n9
 | _=>.skip
theorem t54n0:T54 0=T54n0:=rfl
theorem t54n1:T54 1=T54n1:=rfl
theorem t54n2:T54 2=T54n2:=rfl
theorem t54n3:T54 3=T54n3:=rfl
theorem t54n4:T54 4=T54n4:=rfl
theorem t54n5:T54 5=T54n5:=rfl
theorem t54n6:T54 6=T54n6:=rfl
theorem t54n7:T54 7=T54n7:=rfl
theorem t54n8:T54 8=T54n8:=rfl
theorem t54n9:T54 9=T54n9:=rfl
def X54:XC:=.seq (.ops [zx 4 (.mov (.const (.pointer none)))]) (.ref 9)
abbrev K54:List Nat:=[0,1,4,5,6,11,16,21]
theorem n54:Tryz.f54.ntmps=29:=by kernel_rfl
theorem r54:resT Tryz.f54.results.toList=some [4]:=by kernel_rfl
theorem x54:cmpF Tryz.prog Tryz.f54=some (expand T54 11 X54):=by kernel_rfl
def T68n0:XC:=.seq (.ops [zx 2 (.mov (.const (.bool false)))]) .ret
def T68n1:XC:=.seq (.ops [zx 2 (.mov (.const (.bool false)))]) .ret
def T68n2:XC:=.seq (.ops [zf 15 0 1,zl 16 15,zx 17 (.idxA 19 2 (.global 0) (.tmp 16)),zf 18 1 17,zx 19 (.load [.str] false (.tmp 18)),zm 20 4,zc 21 57 [.tmp 19,.tmp 20],zx 22 (.cmp .lss .i64 (.tmp 21) (.const (.int .i64 0))),zm 23 22,zh 24 23 true 4,.mk (some 25) (some (23,true)) (.call 54 [.tmp 1,.tmp 24]),zg 26 23 true (.nilc (.tmp 25)),zg 27 23 true (.load [.int .i64] false (.tmp 26)),zg 28 23 true (.cmp .neq .i64 (.tmp 27) (.const (.int .i64 0))),zx 29 (.pick (.tmp 23) (.tmp 28) (.const (.bool false)))]) (.cond (.tmp 29) (.ref 1) .skip)
def T68n3:XC:=.seq (.blk 1 (.seq (.ops [zd 13 1 9 11,zx 14 (.load [.int .u8] false (.tmp 13)),zm 4 14]) (.ref 2))) (.ops [zp 30 11,zm 11 30])
def T68n4:XC:=.seq (.cond (.tmp 12) .skip (.exit 0)) (.ref 3)
def T68n5:XC:=.seq (.ops [zk 12 .lss 11 10]) (.ref 4)
def T68n6:XC:=.seq (.ops [zx 2 (.mov (.const (.bool true)))]) .ret
def T68n7:XC:=.seq (.seq (.ops [zx 8 (.buildS 5 4 1 [.int .u8 0] [(0,.const (.int .u8 65)),(1,.const (.int .u8 66)),(2,.const (.int .u8 67)),(3,.const (.int .u8 73))]),zx 9 (.mrk (.tmp 8)),ze 10 9,zx 11 (.mov (.const (.int .i64 0)))]) (.blk 0 (.loop (.ref 5)))) (.ref 6)
def T68n8:XC:=.seq (.seq (.ops [zi 5 1,zc 6 33 [.tmp 5],zx 7 (.not (.tmp 6))]) (.cond (.tmp 7) (.ref 0) .skip)) (.ref 7)
def T68:Nat→XC
 | 0=>T68n0
 | 1=>T68n1
 | 2=>T68n2
 | 3=>T68n3
 | 4=>T68n4
 | 5=>T68n5
 | 6=>T68n6
 | 7=>T68n7
 | 8=>T68n8
 | _=>.skip
theorem t68n0:T68 0=T68n0:=rfl
theorem t68n1:T68 1=T68n1:=rfl
theorem t68n2:T68 2=T68n2:=rfl
theorem t68n3:T68 3=T68n3:=rfl
theorem t68n4:T68 4=T68n4:=rfl
theorem t68n5:T68 5=T68n5:=rfl
theorem t68n6:T68 6=T68n6:=rfl
theorem t68n7:T68 7=T68n7:=rfl
theorem t68n8:T68 8=T68n8:=rfl
def X68:XC:=.seq (.ops [zx 1 (.box 43 5 (.tmp 0)),zx 2 (.mov (.const (.bool false)))]) (.ref 8)
abbrev K68:List Nat:=[0,1,2,4,7,9,10,11,12,29]
theorem n68:Tryz.f68.ntmps=31:=by kernel_rfl
theorem r68:resT Tryz.f68.results.toList=some [2]:=by kernel_rfl
theorem x68:cmpF Tryz.prog Tryz.f68=some (expand T68 10 X68):=by kernel_rfl
attribute [go_sem] t30n0 t30n1 t30n2 t30n3 t30n4 t30n5 t30n6 t30n7 t30n8 t30n9 t30n10 t30n11 t30n12 t30n13 t30n14 t30n15 T30n0 T30n1 T30n2 T30n3 T30n4 T30n5 T30n6 T30n7 T30n8 T30n9 T30n10 T30n11 T30n12 T30n13 T30n14 T30n15 X30
attribute [go_sem] t51n0 t51n1 t51n2 t51n3 t51n4 t51n5 t51n6 t51n7 t51n8 T51n0 T51n1 T51n2 T51n3 T51n4 T51n5 T51n6 T51n7 T51n8 X51
attribute [go_sem] t52n0 t52n1 t52n2 t52n3 t52n4 t52n5 t52n6 t52n7 t52n8 t52n9 t52n10 T52n0 T52n1 T52n2 T52n3 T52n4 T52n5 T52n6 T52n7 T52n8 T52n9 T52n10 X52
attribute [go_sem] t54n0 t54n1 t54n2 t54n3 t54n4 t54n5 t54n6 t54n7 t54n8 t54n9 T54n0 T54n1 T54n2 T54n3 T54n4 T54n5 T54n6 T54n7 T54n8 T54n9 X54
attribute [go_sem] t68n0 t68n1 t68n2 t68n3 t68n4 t68n5 t68n6 t68n7 t68n8 T68n0 T68n1 T68n2 T68n3 T68n4 T68n5 T68n6 T68n7 T68n8 X68
end Go.Proofs.YtaiajnehnjnadaaGreatDoor
