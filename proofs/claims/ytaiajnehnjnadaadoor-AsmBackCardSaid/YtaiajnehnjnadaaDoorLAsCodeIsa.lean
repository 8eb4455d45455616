/- Printed by program: the small code of functions, and that it is theirs. -/
import Derived.Test.YtaiajnehnjnadaaDoorSxStill
import Derived.Test.YtaiajnehnjnadaaDoorProg
import Derived.KernelRfl
set_option linter.unusedSimpArgs false
set_option linter.unusedVariables false
set_option linter.unnecessarySimpa false
namespace Go.Proofs.YtaiajnehnjnadaaDoor
open Go Go.Sx
set_option maxRecDepth 100000
def T53n0:XC:=.seq (.ops [zi 26 6,zn (.store 5 (.tmp 2) (.tmp 26)),zx 3 (.mov (.const (.int .i64 0)))]) .ret
def T53n1:XC:=.seq (.ops [zm 25 7]) (.cond (.tmp 25) (.ref 0) .skip)
def T53n2:XC:=.seq (.ops [zx 27 (.build [.int .i64 0,.int .i64 0,.int .i64 0,.int .i64 0,.int .i64 0] []),zn (.store 5 (.tmp 2) (.tmp 27)),zx 3 (.mov (.const (.int .i64 2)))]) .ret
def T53n3:XC:=.seq (.seq (.ops [zm 20 5,zx 21 (.build [.int .i64 0,.int .i64 0,.int .i64 0,.int .i64 0,.int .i64 0] []),.mk (some 22) none (.callv (.tmp 20) [.tmp 21,.const (.string (ByteArray.mk (Array.mk [UInt8.ofNat 79,UInt8.ofNat 65,UInt8.ofNat 66,UInt8.ofNat 67,UInt8.ofNat 73])))]),zm 19 22,zy 23 19 0,zy 24 19 1,zx 6 (.alloc 43 [.int .i64 0,.int .i64 0,.int .i64 0,.int .i64 0,.int .i64 0]),zn (.store 5 (.tmp 6) (.tmp 23)),zm 7 24]) (.ref 1)) (.ref 2)
def T53n4:XC:=.seq (.ops [zi 53 10,zn (.store 5 (.tmp 2) (.tmp 53)),zx 3 (.mov (.const (.int .i64 0)))]) .ret
def T53n5:XC:=.seq (.ops [zm 52 11]) (.cond (.tmp 52) (.ref 4) .skip)
def T53n6:XC:=.seq (.ops [zm 44 5,zm 45 8,zx 46 (.build [.int .i64 0,.int .i64 0,.int .i64 0,.int .i64 0,.int .i64 0] [(0,1,.tmp 45)]),zf 47 1 9,zx 48 (.load [.str] false (.tmp 47)),.mk (some 49) none (.callv (.tmp 44) [.tmp 46,.tmp 48]),zm 43 49,zy 50 43 0,zy 51 43 1,zx 10 (.alloc 43 [.int .i64 0,.int .i64 0,.int .i64 0,.int .i64 0,.int .i64 0]),zn (.store 5 (.tmp 10) (.tmp 50)),zm 11 51]) (.ref 5)
def T53n7:XC:=.seq (.seq (.ops [zm 33 8,zx 34 (.cmp .lss .i64 (.tmp 33) (.const (.int .i64 1))),zm 35 34,zg 36 35 false (.fld 0 (.tmp 9)),zg 37 35 false (.load [.str] false (.tmp 36)),zg 38 35 false (.load [.slc] false (.tmp 4)),zg 39 35 false (.idx 1 (.tmp 38) (.const (.int .i64 0))),zg 40 35 false (.load [.str] false (.tmp 39)),zg 41 35 false (.eqs .neq (.tmp 37) (.tmp 40)),zx 42 (.pick (.tmp 35) (.const (.bool true)) (.tmp 41))]) (.cond (.tmp 42) (.exit 1) .skip)) (.ref 6)
def T53n8:XC:=.seq (.blk 1 (.seq (.ops [zm 31 29,zx 32 (.ixA 19 2 true (.tmp 28) (.tmp 29)),zx 9 (.alloc 69 [.string (ByteArray.mk (Array.mk [])),.string (ByteArray.mk (Array.mk []))]),zm 8 31,zn (.store 2 (.tmp 9) (.tmp 32))]) (.ref 7))) (.ops [zp 54 29,zm 29 54])
def T53n9:XC:=.seq (.cond (.tmp 30) .skip (.exit 0)) (.ref 8)
def T53n10:XC:=.seq (.ops [zx 30 (.cmp .lss .i64 (.tmp 29) (.const (.int .i64 19)))]) (.ref 9)
def T53n11:XC:=.seq (.ops [zx 55 (.build [.int .i64 0,.int .i64 0,.int .i64 0,.int .i64 0,.int .i64 0] []),zn (.store 5 (.tmp 2) (.tmp 55)),zx 3 (.mov (.const (.int .i64 2)))]) .ret
def T53n12:XC:=.seq (.seq (.ops [zx 28 (.load [.str,.str,.str,.str,.str,.str,.str,.str,.str,.str,.str,.str,.str,.str,.str,.str,.str,.str,.str,.str,.str,.str,.str,.str,.str,.str,.str,.str,.str,.str,.str,.str,.str,.str,.str,.str,.str,.str] true (.global 0)),zx 29 (.mov (.const (.int .i64 0)))]) (.blk 0 (.loop (.ref 10)))) (.ref 11)
def T53n13:XC:=.seq (.seq (.ops [zx 15 (.load [.slc] false (.tmp 4)),zx 16 (.idx 1 (.tmp 15) (.const (.int .i64 0))),zx 17 (.load [.str] false (.tmp 16)),zx 18 (.eqs .eql (.tmp 17) (.const (.string (ByteArray.mk (Array.mk [UInt8.ofNat 114,UInt8.ofNat 97,UInt8.ofNat 119])))))]) (.cond (.tmp 18) (.ref 3) .skip)) (.seq (.lab) (.ref 12))
def T53n14:XC:=.seq (.ops [zx 14 (.mkfn (.func 69) [] [.tmp 4,.tmp 1]),zm 5 14]) (.ref 13)
def T53n15:XC:=.scp (.seq (.ops [zx 12 (.load [.str] false (.tmp 1)),.mk (some 13) none (.call 48 [.tmp 12,.const (.string (ByteArray.mk (Array.mk [UInt8.ofNat 32])))]),zx 4 (.alloc 92 [.slice none 0 0]),zn (.store 1 (.tmp 4) (.tmp 13))]) (.ref 14))
def T53:Nat→XC
 | 0=>T53n0
 | 1=>T53n1
 | 2=>T53n2
 | 3=>T53n3
 | 4=>T53n4
 | 5=>T53n5
 | 6=>T53n6
 | 7=>T53n7
 | 8=>T53n8
 | 9=>T53n9
 | 10=>T53n10
 | 11=>T53n11
 | 12=>T53n12
 | 13=>T53n13
 | 14=>T53n14
 | 15=>T53n15
 | _=>.skip
theorem t53n0:T53 0=T53n0:=rfl
theorem t53n1:T53 1=T53n1:=rfl
theorem t53n2:T53 2=T53n2:=rfl
theorem t53n3:T53 3=T53n3:=rfl
theorem t53n4:T53 4=T53n4:=rfl
theorem t53n5:T53 5=T53n5:=rfl
theorem t53n6:T53 6=T53n6:=rfl
theorem t53n7:T53 7=T53n7:=rfl
theorem t53n8:T53 8=T53n8:=rfl
theorem t53n9:T53 9=T53n9:=rfl
theorem t53n10:T53 10=T53n10:=rfl
theorem t53n11:T53 11=T53n11:=rfl
theorem t53n12:T53 12=T53n12:=rfl
theorem t53n13:T53 13=T53n13:=rfl
theorem t53n14:T53 14=T53n14:=rfl
theorem t53n15:T53 15=T53n15:=rfl
def X53:XC:=.seq (.ops [zx 1 (.box 9 1 (.tmp 0)),zx 2 (.alloc 43 [.int .i64 0,.int .i64 0,.int .i64 0,.int .i64 0,.int .i64 0]),zx 3 (.mov (.const (.int .i64 0)))]) (.ref 15)
abbrev K53:List Nat:=[0,1,2,3,4,5,6,7,8,9,10,11,18,25,28,29,30,42,52]
theorem n53:Tryd.f53.ntmps=56:=by kernel_rfl
theorem r53:rvOf Tryd.prog Tryd.f53.results.toList=some [RV.cell 2 5 true,RV.tmp 3]:=by kernel_rfl
theorem x53:cmpF Tryd.prog Tryd.f53=some (expand T53 17 X53):=by kernel_rfl
def T17n0:XC:=.ops [zf 9 0 1,zl 10 9,zx 11 (.idxA 19 2 (.global 0) (.tmp 10)),zf 12 0 11,zx 13 (.load [.str] false (.tmp 12)),zf 14 0 1,zl 15 14,zx 16 (.idxA 19 2 (.global 0) (.tmp 15)),zf 17 1 16,zx 18 (.load [.str] false (.tmp 17)),zm 3 13,zm 4 18]
def T17n1:XC:=.ops [zm 26 3,zm 27 6,zc 28 31 [.tmp 1,.tmp 27],zx 29 (.nilc (.tmp 28)),zl 30 29,zc 31 16 [.tmp 30],zx 32 (.cat (.const (.string (ByteArray.mk (Array.mk [UInt8.ofNat 32])))) (.tmp 31)),zx 33 (.cat (.tmp 26) (.tmp 32)),zm 3 33]
def T17n2:XC:=.seq (.blk 1 (.seq (.ops [zd 24 1 20 22,zx 25 (.load [.int .u8] false (.tmp 24)),zm 6 25]) (.ref 1))) (.ops [zp 34 22,zm 22 34])
def T17n3:XC:=.seq (.cond (.tmp 23) .skip (.exit 0)) (.ref 2)
def T17n4:XC:=.seq (.ops [zk 23 .lss 22 21]) (.ref 3)
def T17n5:XC:=.seq (.ops [zm 35 3,zm 2 35]) .ret
def T17n6:XC:=.seq (.seq (.ops [zm 19 4,zx 20 (.s2b 5 (.tmp 19)),ze 21 20,zx 22 (.mov (.const (.int .i64 0)))]) (.blk 0 (.loop (.ref 4)))) (.ref 5)
def T17n7:XC:=.seq (.seq (.ops [zi 7 1,zc 8 30 [.tmp 7]]) (.cond (.tmp 8) (.ref 0) .skip)) (.ref 6)
def T17n8:XC:=.seq (.ops [zx 3 (.mov (.const (.string (ByteArray.mk (Array.mk [UInt8.ofNat 114,UInt8.ofNat 97,UInt8.ofNat 119]))))),zx 4 (.mov (.const (.string (ByteArray.mk (Array.mk [UInt8.ofNat 79,UInt8.ofNat 65,UInt8.ofNat 66,UInt8.ofNat 67,UInt8.ofNat 73])))))]) (.ref 7)
def T17:Nat→XC
 | 0=>T17n0
 | 1=>T17n1
 | 2=>T17n2
 | 3=>T17n3
 | 4=>T17n4
 | 5=>T17n5
 | 6=>T17n6
 | 7=>T17n7
 | 8=>T17n8
 | _=>.skip
theorem t17n0:T17 0=T17n0:=rfl
theorem t17n1:T17 1=T17n1:=rfl
theorem t17n2:T17 2=T17n2:=rfl
theorem t17n3:T17 3=T17n3:=rfl
theorem t17n4:T17 4=T17n4:=rfl
theorem t17n5:T17 5=T17n5:=rfl
theorem t17n6:T17 6=T17n6:=rfl
theorem t17n7:T17 7=T17n7:=rfl
theorem t17n8:T17 8=T17n8:=rfl
def X17:XC:=.seq (.ops [zx 1 (.box 43 5 (.tmp 0)),zx 2 (.mov (.const (.string (ByteArray.mk (Array.mk [])))))]) (.ref 8)
abbrev K17:List Nat:=[0,1,2,3,4,6,8,20,21,22,23]
theorem n17:Tryd.f17.ntmps=36:=by kernel_rfl
theorem r17:resT Tryd.f17.results.toList=some [2]:=by kernel_rfl
theorem x17:cmpF Tryd.prog Tryd.f17=some (expand T17 10 X17):=by kernel_rfl
def T69n0:XC:=.seq (.ops [zi 18 4,zn (.store 5 (.tmp 6) (.tmp 18)),zx 7 (.mov (.const (.bool false)))]) .ret
def T69n1:XC:=.seq (.ops [zi 34 4,zn (.store 5 (.tmp 6) (.tmp 34)),zx 7 (.mov (.const (.bool false)))]) .ret
def T69n2:XC:=.ops [zm 35 1,zm 36 8,zx 37 (.ixT (.tmp 35) (.tmp 36)),zc 38 31 [.tmp 4,.tmp 37],zm 39 10,zx 40 (.nilc (.tmp 38)),zn (.store 1 (.tmp 40) (.tmp 39))]
def T69n3:XC:=.seq (.seq (.ops [zm 32 11,zx 33 (.eqif true 50 (.tmp 32) (.const .nilIface))]) (.cond (.tmp 33) (.ref 1) .skip)) (.ref 2)
def T69n4:XC:=.seq (.ops [zm 28 9,zc 29 70 [.tmp 28],zm 27 29,zy 30 27 0,zy 31 27 1,zm 10 30,zm 11 31]) (.ref 3)
def T69n5:XC:=.seq (.blk 1 (.seq (.ops [zm 24 22,zd 25 1 20 22,zx 26 (.load [.str] false (.tmp 25)),zm 8 24,zm 9 26]) (.ref 4))) (.ops [zp 41 22,zm 22 41])
def T69n6:XC:=.seq (.cond (.tmp 23) .skip (.exit 0)) (.ref 5)
def T69n7:XC:=.seq (.ops [zk 23 .lss 22 21]) (.ref 6)
def T69n8:XC:=.seq (.ops [zi 42 4,zi 43 4,zx 45 (.load [.str] false (.tmp 3)),zc 44 17 [.tmp 43],.mk none none (.still 45 (.load [.str] false (.tmp 3))),.mk none none (.still 42 (.load [.int .i64,.int .i64,.int .i64,.int .i64,.int .i64] true (.tmp 4))),zx 46 (.eqs .eql (.tmp 44) (.tmp 45)),zn (.store 5 (.tmp 6) (.tmp 42)),.mk none none (.still 45 (.load [.str] false (.tmp 3))),zm 7 46]) .ret
def T69n9:XC:=.seq (.seq (.ops [zx 19 (.load [.slc] false (.tmp 2)),zx 20 (.sub 1 (.tmp 19) (some (.const (.int .i64 1))) none),ze 21 20,zx 22 (.mov (.const (.int .i64 0)))]) (.blk 0 (.loop (.ref 7)))) (.ref 8)
def T69n10:XC:=.seq (.seq (.ops [zx 12 (.load [.slc] false (.tmp 2)),ze 13 12,zm 14 1,zx 15 (.lenT (.tmp 14)),zp 16 15,zk 17 .neq 13 16]) (.cond (.tmp 17) (.ref 0) .skip)) (.ref 9)
def T69:Nat→XC
 | 0=>T69n0
 | 1=>T69n1
 | 2=>T69n2
 | 3=>T69n3
 | 4=>T69n4
 | 5=>T69n5
 | 6=>T69n6
 | 7=>T69n7
 | 8=>T69n8
 | 9=>T69n9
 | 10=>T69n10
 | _=>.skip
theorem t69n0:T69 0=T69n0:=rfl
theorem t69n1:T69 1=T69n1:=rfl
theorem t69n2:T69 2=T69n2:=rfl
theorem t69n3:T69 3=T69n3:=rfl
theorem t69n4:T69 4=T69n4:=rfl
theorem t69n5:T69 5=T69n5:=rfl
theorem t69n6:T69 6=T69n6:=rfl
theorem t69n7:T69 7=T69n7:=rfl
theorem t69n8:T69 8=T69n8:=rfl
theorem t69n9:T69 9=T69n9:=rfl
theorem t69n10:T69 10=T69n10:=rfl
def X69:XC:=.seq (.ops [zx 4 (.box 43 5 (.tmp 0)),zx 6 (.alloc 43 [.int .i64 0,.int .i64 0,.int .i64 0,.int .i64 0,.int .i64 0]),zx 7 (.mov (.const (.bool false)))]) (.ref 10)
abbrev K69:List Nat:=[0,1,2,3,4,6,7,8,9,10,11,17,20,21,22,23,33]
theorem n69:Tryd.f69.ntmps=47:=by kernel_rfl
theorem r69:rvOf Tryd.prog Tryd.f69.results.toList=some [RV.cell 6 5 true,RV.tmp 7]:=by kernel_rfl
theorem x69:cmpF Tryd.prog Tryd.f69=some (expand T69 12 X69):=by kernel_rfl
def T31n0:XC:=.seq (.ops [zm 8 0,zx 9 (.nilc (.tmp 8)),zf 10 1 9,zm 4 10]) .ret
def T31n1:XC:=.seq (.ops [zm 13 0,zx 14 (.nilc (.tmp 13)),zf 15 2 14,zm 4 15]) .ret
def T31n2:XC:=.seq (.ops [zm 18 0,zx 19 (.nilc (.tmp 18)),zf 20 3 19,zm 4 20]) .ret
def T31n3:XC:=.seq (.ops [zm 23 0,zx 24 (.nilc (.tmp 23)),zf 25 4 24,zm 4 25]) .ret
def T31n4:XC:=.seq (.ops [zx 22 (.cmp .eql .u8 (.tmp 5) (.const (.int .u8 73))),zm 21 22]) (.cond (.tmp 21) (.ref 3) .skip)
def T31n5:XC:=.seq (.ops [zx 17 (.cmp .eql .u8 (.tmp 5) (.const (.int .u8 67))),zm 16 17]) (.cond (.tmp 16) (.ref 2) (.ref 4))
def T31n6:XC:=.seq (.ops [zx 12 (.cmp .eql .u8 (.tmp 5) (.const (.int .u8 66))),zm 11 12]) (.cond (.tmp 11) (.ref 1) (.ref 5))
def T31n7:XC:=.blk 0 (.seq (.ops [zx 7 (.cmp .eql .u8 (.tmp 5) (.const (.int .u8 65))),zm 6 7]) (.cond (.tmp 6) (.ref 0) (.ref 6)))
def T31n8:XC:=.seq (.ops [zm 26 0,zx 27 (.nilc (.tmp 26)),zf 28 0 27,zm 4 28]) .ret
def T31n9:XC:=.seq (.seq (.ops [zm 5 1]) (.ref 7)) (.ref 8)
def T31:Nat→XC
 | 0=>T31n0
 | 1=>T31n1
 | 2=>T31n2
 | 3=>T31n3
 | 4=>T31n4
 | 5=>T31n5
 | 6=>T31n6
 | 7=>T31n7
 | 8=>T31n8
 | 9=>T31n9
 | _=>.skip
theorem t31n0:T31 0=T31n0:=rfl
theorem t31n1:T31 1=T31n1:=rfl
theorem t31n2:T31 2=T31n2:=rfl
theorem t31n3:T31 3=T31n3:=rfl
theorem t31n4:T31 4=T31n4:=rfl
theorem t31n5:T31 5=T31n5:=rfl
theorem t31n6:T31 6=T31n6:=rfl
theorem t31n7:T31 7=T31n7:=rfl
theorem t31n8:T31 8=T31n8:=rfl
theorem t31n9:T31 9=T31n9:=rfl
def X31:XC:=.seq (.ops [zx 4 (.mov (.const (.pointer none)))]) (.ref 9)
abbrev K31:List Nat:=[0,1,4,5,6,11,16,21]
theorem n31:Tryd.f31.ntmps=29:=by kernel_rfl
theorem r31:resT Tryd.f31.results.toList=some [4]:=by kernel_rfl
theorem x31:cmpF Tryd.prog Tryd.f31=some (expand T31 11 X31):=by kernel_rfl
def T30n0:XC:=.seq (.ops [zx 2 (.mov (.const (.bool false)))]) .ret
def T30n1:XC:=.seq (.ops [zx 2 (.mov (.const (.bool false)))]) .ret
def T30n2:XC:=.seq (.ops [zf 15 0 1,zl 16 15,zx 17 (.idxA 19 2 (.global 0) (.tmp 16)),zf 18 1 17,zx 19 (.load [.str] false (.tmp 18)),zm 20 4,zc 21 42 [.tmp 19,.tmp 20],zx 22 (.cmp .lss .i64 (.tmp 21) (.const (.int .i64 0))),zm 23 22,zh 24 23 true 4,.mk (some 25) (some (23,true)) (.call 31 [.tmp 1,.tmp 24]),zg 26 23 true (.nilc (.tmp 25)),zg 27 23 true (.load [.int .i64] false (.tmp 26)),zg 28 23 true (.cmp .neq .i64 (.tmp 27) (.const (.int .i64 0))),zx 29 (.pick (.tmp 23) (.tmp 28) (.const (.bool false)))]) (.cond (.tmp 29) (.ref 1) .skip)
def T30n3:XC:=.seq (.blk 1 (.seq (.ops [zd 13 1 9 11,zx 14 (.load [.int .u8] false (.tmp 13)),zm 4 14]) (.ref 2))) (.ops [zp 30 11,zm 11 30])
def T30n4:XC:=.seq (.cond (.tmp 12) .skip (.exit 0)) (.ref 3)
def T30n5:XC:=.seq (.ops [zk 12 .lss 11 10]) (.ref 4)
def T30n6:XC:=.seq (.ops [zx 2 (.mov (.const (.bool true)))]) .ret
def T30n7:XC:=.seq (.seq (.ops [zx 8 (.buildS 5 4 1 [.int .u8 0] [(0,.const (.int .u8 65)),(1,.const (.int .u8 66)),(2,.const (.int .u8 67)),(3,.const (.int .u8 73))]),zx 9 (.mrk (.tmp 8)),ze 10 9,zx 11 (.mov (.const (.int .i64 0)))]) (.blk 0 (.loop (.ref 5)))) (.ref 6)
def T30n8:XC:=.seq (.seq (.ops [zi 5 1,zc 6 26 [.tmp 5],zx 7 (.not (.tmp 6))]) (.cond (.tmp 7) (.ref 0) .skip)) (.ref 7)
def T30:Nat→XC
 | 0=>T30n0
 | 1=>T30n1
 | 2=>T30n2
 | 3=>T30n3
 | 4=>T30n4
 | 5=>T30n5
 | 6=>T30n6
 | 7=>T30n7
 | 8=>T30n8
 | _=>.skip
theorem t30n0:T30 0=T30n0:=rfl
theorem t30n1:T30 1=T30n1:=rfl
theorem t30n2:T30 2=T30n2:=rfl
theorem t30n3:T30 3=T30n3:=rfl
theorem t30n4:T30 4=T30n4:=rfl
theorem t30n5:T30 5=T30n5:=rfl
theorem t30n6:T30 6=T30n6:=rfl
theorem t30n7:T30 7=T30n7:=rfl
theorem t30n8:T30 8=T30n8:=rfl
def X30:XC:=.seq (.ops [zx 1 (.box 43 5 (.tmp 0)),zx 2 (.mov (.const (.bool false)))]) (.ref 8)
abbrev K30:List Nat:=[0,1,2,4,7,9,10,11,12,29]
theorem n30:Tryd.f30.ntmps=31:=by kernel_rfl
theorem r30:resT Tryd.f30.results.toList=some [2]:=by kernel_rfl
theorem x30:cmpF Tryd.prog Tryd.f30=some (expand T30 10 X30):=by kernel_rfl
attribute [go_sem] t53n0 t53n1 t53n2 t53n3 t53n4 t53n5 t53n6 t53n7 t53n8 t53n9 t53n10 t53n11 t53n12 t53n13 t53n14 t53n15 T53n0 T53n1 T53n2 T53n3 T53n4 T53n5 T53n6 T53n7 T53n8 T53n9 T53n10 T53n11 T53n12 T53n13 T53n14 T53n15 X53
attribute [go_sem] t17n0 t17n1 t17n2 t17n3 t17n4 t17n5 t17n6 t17n7 t17n8 T17n0 T17n1 T17n2 T17n3 T17n4 T17n5 T17n6 T17n7 T17n8 X17
attribute [go_sem] t69n0 t69n1 t69n2 t69n3 t69n4 t69n5 t69n6 t69n7 t69n8 t69n9 t69n10 T69n0 T69n1 T69n2 T69n3 T69n4 T69n5 T69n6 T69n7 T69n8 T69n9 T69n10 X69
attribute [go_sem] t31n0 t31n1 t31n2 t31n3 t31n4 t31n5 t31n6 t31n7 t31n8 t31n9 T31n0 T31n1 T31n2 T31n3 T31n4 T31n5 T31n6 T31n7 T31n8 T31n9 X31
attribute [go_sem] t30n0 t30n1 t30n2 t30n3 t30n4 t30n5 t30n6 t30n7 t30n8 T30n0 T30n1 T30n2 T30n3 T30n4 T30n5 T30n6 T30n7 T30n8 X30
end Go.Proofs.YtaiajnehnjnadaaDoor
