/- Printed by program: the small code of functions, and that it is theirs. -/
import Derived.Test.YtlbiogokpadaoaaGreatDoorSxStill
import Derived.Test.YtlbiogokpadaoaaGreatDoorProg
import Derived.KernelRfl
set_option linter.unusedSimpArgs false
set_option linter.unusedVariables false
set_option linter.unnecessarySimpa false
namespace Go.Proofs.YtlbiogokpadaoaaGreatDoor
open Go Go.Sx
set_option maxRecDepth 100000
def T153n0:XC:=.seq (.ops [zi 26 6,zn (.store 5 (.tmp 2) (.tmp 26)),zx 3 (.mov (.const (.int .i64 0)))]) .ret
def T153n1:XC:=.seq (.ops [zm 25 7]) (.cond (.tmp 25) (.ref 0) .skip)
def T153n2:XC:=.seq (.ops [zx 27 (.build [.int .i64 0,.int .i64 0,.int .i64 0,.int .i64 0,.int .i64 0] []),zn (.store 5 (.tmp 2) (.tmp 27)),zx 3 (.mov (.const (.int .i64 2)))]) .ret
def T153n3:XC:=.seq (.seq (.ops [zm 20 5,zx 21 (.build [.int .i64 0,.int .i64 0,.int .i64 0,.int .i64 0,.int .i64 0] []),.mk (some 22) none (.callv (.tmp 20) [.tmp 21,.const (.string (ByteArray.mk (Array.mk [UInt8.ofNat 79,UInt8.ofNat 65,UInt8.ofNat 66,UInt8.ofNat 67,UInt8.ofNat 73])))]),zm 19 22,zy 23 19 0,zy 24 19 1,zx 6 (.alloc 41 [.int .i64 0,.int .i64 0,.int .i64 0,.int .i64 0,.int .i64 0]),zn (.store 5 (.tmp 6) (.tmp 23)),zm 7 24]) (.ref 1)) (.ref 2)
def T153n4:XC:=.seq (.ops [zi 53 10,zn (.store 5 (.tmp 2) (.tmp 53)),zx 3 (.mov (.const (.int .i64 0)))]) .ret
def T153n5:XC:=.seq (.ops [zm 52 11]) (.cond (.tmp 52) (.ref 4) .skip)
def T153n6:XC:=.seq (.ops [zm 44 5,zm 45 8,zx 46 (.build [.int .i64 0,.int .i64 0,.int .i64 0,.int .i64 0,.int .i64 0] [(0,1,.tmp 45)]),zf 47 1 9,zx 48 (.load [.str] false (.tmp 47)),.mk (some 49) none (.callv (.tmp 44) [.tmp 46,.tmp 48]),zm 43 49,zy 50 43 0,zy 51 43 1,zx 10 (.alloc 41 [.int .i64 0,.int .i64 0,.int .i64 0,.int .i64 0,.int .i64 0]),zn (.store 5 (.tmp 10) (.tmp 50)),zm 11 51]) (.ref 5)
def T153n7:XC:=.seq (.seq (.ops [zm 33 8,zx 34 (.cmp .lss .i64 (.tmp 33) (.const (.int .i64 1))),zm 35 34,zg 36 35 false (.fld 0 (.tmp 9)),zg 37 35 false (.load [.str] false (.tmp 36)),zg 38 35 false (.load [.slc] false (.tmp 4)),zg 39 35 false (.idx 1 (.tmp 38) (.const (.int .i64 0))),zg 40 35 false (.load [.str] false (.tmp 39)),zg 41 35 false (.eqs .neq (.tmp 37) (.tmp 40)),zx 42 (.pick (.tmp 35) (.const (.bool true)) (.tmp 41))]) (.cond (.tmp 42) (.exit 1) .skip)) (.ref 6)
def T153n8:XC:=.seq (.blk 1 (.seq (.ops [zm 31 29,zx 32 (.ixA 19 2 true (.tmp 28) (.tmp 29)),zx 9 (.alloc 107 [.string (ByteArray.mk (Array.mk [])),.string (ByteArray.mk (Array.mk []))]),zm 8 31,zn (.store 2 (.tmp 9) (.tmp 32))]) (.ref 7))) (.ops [zp 54 29,zm 29 54])
def T153n9:XC:=.seq (.cond (.tmp 30) .skip (.exit 0)) (.ref 8)
def T153n10:XC:=.seq (.ops [zx 30 (.cmp .lss .i64 (.tmp 29) (.const (.int .i64 19)))]) (.ref 9)
def T153n11:XC:=.seq (.ops [zx 55 (.build [.int .i64 0,.int .i64 0,.int .i64 0,.int .i64 0,.int .i64 0] []),zn (.store 5 (.tmp 2) (.tmp 55)),zx 3 (.mov (.const (.int .i64 2)))]) .ret
def T153n12:XC:=.seq (.seq (.ops [zx 28 (.load [.str,.str,.str,.str,.str,.str,.str,.str,.str,.str,.str,.str,.str,.str,.str,.str,.str,.str,.str,.str,.str,.str,.str,.str,.str,.str,.str,.str,.str,.str,.str,.str,.str,.str,.str,.str,.str,.str] true (.global 0)),zx 29 (.mov (.const (.int .i64 0)))]) (.blk 0 (.loop (.ref 10)))) (.ref 11)
def T153n13:XC:=.seq (.seq (.ops [zx 15 (.load [.slc] false (.tmp 4)),zx 16 (.idx 1 (.tmp 15) (.const (.int .i64 0))),zx 17 (.load [.str] false (.tmp 16)),zx 18 (.eqs .eql (.tmp 17) (.const (.string (ByteArray.mk (Array.mk [UInt8.ofNat 114,UInt8.ofNat 97,UInt8.ofNat 119])))))]) (.cond (.tmp 18) (.ref 3) .skip)) (.seq (.lab) (.ref 12))
def T153n14:XC:=.seq (.ops [zx 14 (.mkfn (.func 174) [] [.tmp 4,.tmp 1]),zm 5 14]) (.ref 13)
def T153n15:XC:=.scp (.seq (.ops [zx 12 (.load [.str] false (.tmp 1)),.mk (some 13) none (.call 148 [.tmp 12,.const (.string (ByteArray.mk (Array.mk [UInt8.ofNat 32])))]),zx 4 (.alloc 104 [.slice none 0 0]),zn (.store 1 (.tmp 4) (.tmp 13))]) (.ref 14))
def T153:Nat→XC
 | 0=>T153n0
 | 1=>T153n1
 | 2=>T153n2
 | 3=>T153n3
 | 4=>T153n4
 | 5=>T153n5
 | 6=>T153n6
 | 7=>T153n7
 | 8=>T153n8
 | 9=>T153n9
 | 10=>T153n10
 | 11=>T153n11
 | 12=>T153n12
 | 13=>T153n13
 | 14=>T153n14
 | 15=>T153n15
 | _=>.skip
theorem t153n0:T153 0=T153n0:=rfl
theorem t153n1:T153 1=T153n1:=rfl
theorem t153n2:T153 2=T153n2:=rfl
theorem t153n3:T153 3=T153n3:=rfl
theorem t153n4:T153 4=T153n4:=rfl
theorem t153n5:T153 5=T153n5:=rfl
theorem t153n6:T153 6=T153n6:=rfl
theorem t153n7:T153 7=T153n7:=rfl
theorem t153n8:T153 8=T153n8:=rfl
theorem t153n9:T153 9=T153n9:=rfl
theorem t153n10:T153 10=T153n10:=rfl
theorem t153n11:T153 11=T153n11:=rfl
theorem t153n12:T153 12=T153n12:=rfl
theorem t153n13:T153 13=T153n13:=rfl
theorem t153n14:T153 14=T153n14:=rfl
theorem t153n15:T153 15=T153n15:=rfl
def X153:XC:=.seq (.ops [zx 1 (.box 9 1 (.tmp 0)),zx 2 (.alloc 41 [.int .i64 0,.int .i64 0,.int .i64 0,.int .i64 0,.int .i64 0]),zx 3 (.mov (.const (.int .i64 0)))]) (.ref 15)
abbrev K153:List Nat:=[0,1,2,3,4,5,6,7,8,9,10,11,18,25,28,29,30,42,52]
theorem n153:Tryz.f153.ntmps=56:=by kernel_rfl
theorem r153:rvOf Tryz.prog Tryz.f153.results.toList=some [RV.cell 2 5 true,RV.tmp 3]:=by kernel_rfl
theorem x153:cmpF Tryz.prog Tryz.f153=some (expand T153 17 X153):=by kernel_rfl
def T173n0:XC:=.ops [zf 9 0 1,zl 10 9,zx 11 (.idxA 19 2 (.global 0) (.tmp 10)),zf 12 0 11,zx 13 (.load [.str] false (.tmp 12)),zf 14 0 1,zl 15 14,zx 16 (.idxA 19 2 (.global 0) (.tmp 15)),zf 17 1 16,zx 18 (.load [.str] false (.tmp 17)),zm 3 13,zm 4 18]
def T173n1:XC:=.ops [zm 26 3,zm 27 6,zc 28 176 [.tmp 1,.tmp 27],zx 29 (.nilc (.tmp 28)),zl 30 29,zc 31 101 [.tmp 30],zx 32 (.cat (.const (.string (ByteArray.mk (Array.mk [UInt8.ofNat 32])))) (.tmp 31)),zx 33 (.cat (.tmp 26) (.tmp 32)),zm 3 33]
def T173n2:XC:=.seq (.blk 1 (.seq (.ops [zd 24 1 20 22,zx 25 (.load [.int .u8] false (.tmp 24)),zm 6 25]) (.ref 1))) (.ops [zp 34 22,zm 22 34])
def T173n3:XC:=.seq (.cond (.tmp 23) .skip (.exit 0)) (.ref 2)
def T173n4:XC:=.seq (.ops [zk 23 .lss 22 21]) (.ref 3)
def T173n5:XC:=.seq (.ops [zm 35 3,zm 2 35]) .ret
def T173n6:XC:=.seq (.seq (.ops [zm 19 4,zx 20 (.s2b 5 (.tmp 19)),ze 21 20,zx 22 (.mov (.const (.int .i64 0)))]) (.blk 0 (.loop (.ref 4)))) (.ref 5)
def T173n7:XC:=.seq (.seq (.ops [zi 7 1,zc 8 192 [.tmp 7]]) (.cond (.tmp 8) (.ref 0) .skip)) (.ref 6)
def T173n8:XC:=.seq (.ops [zx 3 (.mov (.const (.string (ByteArray.mk (Array.mk [UInt8.ofNat 114,UInt8.ofNat 97,UInt8.ofNat 119]))))),zx 4 (.mov (.const (.string (ByteArray.mk (Array.mk [UInt8.ofNat 79,UInt8.ofNat 65,UInt8.ofNat 66,UInt8.ofNat 67,UInt8.ofNat 73])))))]) (.ref 7)
def T173:Nat→XC
 | 0=>T173n0
 | 1=>T173n1
 | 2=>T173n2
 | 3=>T173n3
 | 4=>T173n4
 | 5=>T173n5
 | 6=>T173n6
 | 7=>T173n7
 | 8=>T173n8
 | _=>.skip
theorem t173n0:T173 0=T173n0:=rfl
theorem t173n1:T173 1=T173n1:=rfl
theorem t173n2:T173 2=T173n2:=rfl
theorem t173n3:T173 3=T173n3:=rfl
theorem t173n4:T173 4=T173n4:=rfl
theorem t173n5:T173 5=T173n5:=rfl
theorem t173n6:T173 6=T173n6:=rfl
theorem t173n7:T173 7=T173n7:=rfl
theorem t173n8:T173 8=T173n8:=rfl
def X173:XC:=.seq (.ops [zx 1 (.box 41 5 (.tmp 0)),zx 2 (.mov (.const (.string (ByteArray.mk (Array.mk [])))))]) (.ref 8)
abbrev K173:List Nat:=[0,1,2,3,4,6,8,20,21,22,23]
theorem n173:Tryz.f173.ntmps=36:=by kernel_rfl
theorem r173:resT Tryz.f173.results.toList=some [2]:=by kernel_rfl
theorem x173:cmpF Tryz.prog Tryz.f173=some (expand T173 10 X173):=by kernel_rfl
def T174n0:XC:=.seq (.ops [zi 18 4,zn (.store 5 (.tmp 6) (.tmp 18)),zx 7 (.mov (.const (.bool false)))]) .ret
def T174n1:XC:=.seq (.ops [zi 34 4,zn (.store 5 (.tmp 6) (.tmp 34)),zx 7 (.mov (.const (.bool false)))]) .ret
def T174n2:XC:=.ops [zm 35 1,zm 36 8,zx 37 (.ixT (.tmp 35) (.tmp 36)),zc 38 176 [.tmp 4,.tmp 37],zm 39 10,zx 40 (.nilc (.tmp 38)),zn (.store 1 (.tmp 40) (.tmp 39))]
def T174n3:XC:=.seq (.seq (.ops [zm 32 11,zx 33 (.eqif true 230 (.tmp 32) (.const .nilIface))]) (.cond (.tmp 33) (.ref 1) .skip)) (.ref 2)
def T174n4:XC:=.seq (.ops [zm 28 9,zc 29 175 [.tmp 28],zm 27 29,zy 30 27 0,zy 31 27 1,zm 10 30,zm 11 31]) (.ref 3)
def T174n5:XC:=.seq (.blk 1 (.seq (.ops [zm 24 22,zd 25 1 20 22,zx 26 (.load [.str] false (.tmp 25)),zm 8 24,zm 9 26]) (.ref 4))) (.ops [zp 41 22,zm 22 41])
def T174n6:XC:=.seq (.cond (.tmp 23) .skip (.exit 0)) (.ref 5)
def T174n7:XC:=.seq (.ops [zk 23 .lss 22 21]) (.ref 6)
def T174n8:XC:=.seq (.ops [zi 42 4,zi 43 4,zx 45 (.load [.str] false (.tmp 3)),zc 44 173 [.tmp 43],.mk none none (.still 45 (.load [.str] false (.tmp 3))),.mk none none (.still 42 (.load [.int .i64,.int .i64,.int .i64,.int .i64,.int .i64] true (.tmp 4))),zx 46 (.eqs .eql (.tmp 44) (.tmp 45)),zn (.store 5 (.tmp 6) (.tmp 42)),.mk none none (.still 45 (.load [.str] false (.tmp 3))),zm 7 46]) .ret
def T174n9:XC:=.seq (.seq (.ops [zx 19 (.load [.slc] false (.tmp 2)),zx 20 (.sub 1 (.tmp 19) (some (.const (.int .i64 1))) none),ze 21 20,zx 22 (.mov (.const (.int .i64 0)))]) (.blk 0 (.loop (.ref 7)))) (.ref 8)
def T174n10:XC:=.seq (.seq (.ops [zx 12 (.load [.slc] false (.tmp 2)),ze 13 12,zm 14 1,zx 15 (.lenT (.tmp 14)),zp 16 15,zk 17 .neq 13 16]) (.cond (.tmp 17) (.ref 0) .skip)) (.ref 9)
def T174:Nat→XC
 | 0=>T174n0
 | 1=>T174n1
 | 2=>T174n2
 | 3=>T174n3
 | 4=>T174n4
 | 5=>T174n5
 | 6=>T174n6
 | 7=>T174n7
 | 8=>T174n8
 | 9=>T174n9
 | 10=>T174n10
 | _=>.skip
theorem t174n0:T174 0=T174n0:=rfl
theorem t174n1:T174 1=T174n1:=rfl
theorem t174n2:T174 2=T174n2:=rfl
theorem t174n3:T174 3=T174n3:=rfl
theorem t174n4:T174 4=T174n4:=rfl
theorem t174n5:T174 5=T174n5:=rfl
theorem t174n6:T174 6=T174n6:=rfl
theorem t174n7:T174 7=T174n7:=rfl
theorem t174n8:T174 8=T174n8:=rfl
theorem t174n9:T174 9=T174n9:=rfl
theorem t174n10:T174 10=T174n10:=rfl
def X174:XC:=.seq (.ops [zx 4 (.box 41 5 (.tmp 0)),zx 6 (.alloc 41 [.int .i64 0,.int .i64 0,.int .i64 0,.int .i64 0,.int .i64 0]),zx 7 (.mov (.const (.bool false)))]) (.ref 10)
abbrev K174:List Nat:=[0,1,2,3,4,6,7,8,9,10,11,17,20,21,22,23,33]
theorem n174:Tryz.f174.ntmps=47:=by kernel_rfl
theorem r174:rvOf Tryz.prog Tryz.f174.results.toList=some [RV.cell 6 5 true,RV.tmp 7]:=by kernel_rfl
theorem x174:cmpF Tryz.prog Tryz.f174=some (expand T174 12 X174):=by kernel_rfl
def T176n0:XC:=.seq (.ops [zm 8 0,zx 9 (.nilc (.tmp 8)),zf 10 1 9,zm 4 10]) .ret
def T176n1:XC:=.seq (.ops [zm 13 0,zx 14 (.nilc (.tmp 13)),zf 15 2 14,zm 4 15]) .ret
def T176n2:XC:=.seq (.ops [zm 18 0,zx 19 (.nilc (.tmp 18)),zf 20 3 19,zm 4 20]) .ret
def T176n3:XC:=.seq (.ops [zm 23 0,zx 24 (.nilc (.tmp 23)),zf 25 4 24,zm 4 25]) .ret
def T176n4:XC:=.seq (.ops [zx 22 (.cmp .eql .u8 (.tmp 5) (.const (.int .u8 73))),zm 21 22]) (.cond (.tmp 21) (.ref 3) .skip)
def T176n5:XC:=.seq (.ops [zx 17 (.cmp .eql .u8 (.tmp 5) (.const (.int .u8 67))),zm 16 17]) (.cond (.tmp 16) (.ref 2) (.ref 4))
def T176n6:XC:=.seq (.ops [zx 12 (.cmp .eql .u8 (.tmp 5) (.const (.int .u8 66))),zm 11 12]) (.cond (.tmp 11) (.ref 1) (.ref 5))
def T176n7:XC:=.blk 0 (.seq (.ops [zx 7 (.cmp .eql .u8 (.tmp 5) (.const (.int .u8 65))),zm 6 7]) (.cond (.tmp 6) (.ref 0) (.ref 6)))
def T176n8:XC:=.seq (.ops [zm 26 0,zx 27 (.nilc (.tmp 26)),zf 28 0 27,zm 4 28]) .ret
def T176n9:XC:=.seq (.seq (.ops [zm 5 1]) (.ref 7)) (.ref 8)
def T176:Nat→XC
 | 0=>T176n0
 | 1=>T176n1
 | 2=>T176n2
 | 3=>T176n3
 | 4=>T176n4
 | 5=>T176n5
 | 6=>T176n6
 | 7=>T176n7
 | 8=>T176n8
 | 9=>T176n9
 | _=>.skip
theorem t176n0:T176 0=T176n0:=rfl
theorem t176n1:T176 1=T176n1:=rfl
theorem t176n2:T176 2=T176n2:=rfl
theorem t176n3:T176 3=T176n3:=rfl
theorem t176n4:T176 4=T176n4:=rfl
theorem t176n5:T176 5=T176n5:=rfl
theorem t176n6:T176 6=T176n6:=rfl
theorem t176n7:T176 7=T176n7:=rfl
theorem t176n8:T176 8=T176n8:=rfl
theorem t176n9:T176 9=T176n9:=rfl
def X176:XC:=.seq (.ops [zx 4 (.mov (.const (.pointer none)))]) (.ref 9)
abbrev K176:List Nat:=[0,1,4,5,6,11,16,21]
theorem n176:Tryz.f176.ntmps=29:=by kernel_rfl
theorem r176:resT Tryz.f176.results.toList=some [4]:=by kernel_rfl
theorem x176:cmpF Tryz.prog Tryz.f176=some (expand T176 11 X176):=by kernel_rfl
def T192n0:XC:=.seq (.ops [zx 2 (.mov (.const (.bool false)))]) .ret
def T192n1:XC:=.seq (.ops [zx 2 (.mov (.const (.bool false)))]) .ret
def T192n2:XC:=.seq (.ops [zf 15 0 1,zl 16 15,zx 17 (.idxA 19 2 (.global 0) (.tmp 16)),zf 18 1 17,zx 19 (.load [.str] false (.tmp 18)),zm 20 4,zc 21 38 [.tmp 19,.tmp 20],zx 22 (.cmp .lss .i64 (.tmp 21) (.const (.int .i64 0))),zm 23 22,zh 24 23 true 4,.mk (some 25) (some (23,true)) (.call 176 [.tmp 1,.tmp 24]),zg 26 23 true (.nilc (.tmp 25)),zg 27 23 true (.load [.int .i64] false (.tmp 26)),zg 28 23 true (.cmp .neq .i64 (.tmp 27) (.const (.int .i64 0))),zx 29 (.pick (.tmp 23) (.tmp 28) (.const (.bool false)))]) (.cond (.tmp 29) (.ref 1) .skip)
def T192n3:XC:=.seq (.blk 1 (.seq (.ops [zd 13 1 9 11,zx 14 (.load [.int .u8] false (.tmp 13)),zm 4 14]) (.ref 2))) (.ops [zp 30 11,zm 11 30])
def T192n4:XC:=.seq (.cond (.tmp 12) .skip (.exit 0)) (.ref 3)
def T192n5:XC:=.seq (.ops [zk 12 .lss 11 10]) (.ref 4)
def T192n6:XC:=.seq (.ops [zx 2 (.mov (.const (.bool true)))]) .ret
def T192n7:XC:=.seq (.seq (.ops [zx 8 (.buildS 5 4 1 [.int .u8 0] [(0,.const (.int .u8 65)),(1,.const (.int .u8 66)),(2,.const (.int .u8 67)),(3,.const (.int .u8 73))]),zx 9 (.mrk (.tmp 8)),ze 10 9,zx 11 (.mov (.const (.int .i64 0)))]) (.blk 0 (.loop (.ref 5)))) (.ref 6)
def T192n8:XC:=.seq (.seq (.ops [zi 5 1,zc 6 21 [.tmp 5],zx 7 (.not (.tmp 6))]) (.cond (.tmp 7) (.ref 0) .skip)) (.ref 7)
def T192:Nat→XC
 | 0=>T192n0
 | 1=>T192n1
 | 2=>T192n2
 | 3=>T192n3
 | 4=>T192n4
 | 5=>T192n5
 | 6=>T192n6
 | 7=>T192n7
 | 8=>T192n8
 | _=>.skip
theorem t192n0:T192 0=T192n0:=rfl
theorem t192n1:T192 1=T192n1:=rfl
theorem t192n2:T192 2=T192n2:=rfl
theorem t192n3:T192 3=T192n3:=rfl
theorem t192n4:T192 4=T192n4:=rfl
theorem t192n5:T192 5=T192n5:=rfl
theorem t192n6:T192 6=T192n6:=rfl
theorem t192n7:T192 7=T192n7:=rfl
theorem t192n8:T192 8=T192n8:=rfl
def X192:XC:=.seq (.ops [zx 1 (.box 41 5 (.tmp 0)),zx 2 (.mov (.const (.bool false)))]) (.ref 8)
abbrev K192:List Nat:=[0,1,2,4,7,9,10,11,12,29]
theorem n192:Tryz.f192.ntmps=31:=by kernel_rfl
theorem r192:resT Tryz.f192.results.toList=some [2]:=by kernel_rfl
theorem x192:cmpF Tryz.prog Tryz.f192=some (expand T192 10 X192):=by kernel_rfl
attribute [go_sem] t153n0 t153n1 t153n2 t153n3 t153n4 t153n5 t153n6 t153n7 t153n8 t153n9 t153n10 t153n11 t153n12 t153n13 t153n14 t153n15 T153n0 T153n1 T153n2 T153n3 T153n4 T153n5 T153n6 T153n7 T153n8 T153n9 T153n10 T153n11 T153n12 T153n13 T153n14 T153n15 X153
attribute [go_sem] t173n0 t173n1 t173n2 t173n3 t173n4 t173n5 t173n6 t173n7 t173n8 T173n0 T173n1 T173n2 T173n3 T173n4 T173n5 T173n6 T173n7 T173n8 X173
attribute [go_sem] t174n0 t174n1 t174n2 t174n3 t174n4 t174n5 t174n6 t174n7 t174n8 t174n9 t174n10 T174n0 T174n1 T174n2 T174n3 T174n4 T174n5 T174n6 T174n7 T174n8 T174n9 T174n10 X174
attribute [go_sem] t176n0 t176n1 t176n2 t176n3 t176n4 t176n5 t176n6 t176n7 t176n8 t176n9 T176n0 T176n1 T176n2 T176n3 T176n4 T176n5 T176n6 T176n7 T176n8 T176n9 X176
attribute [go_sem] t192n0 t192n1 t192n2 t192n3 t192n4 t192n5 t192n6 t192n7 t192n8 T192n0 T192n1 T192n2 T192n3 T192n4 T192n5 T192n6 T192n7 T192n8 X192
end Go.Proofs.YtlbiogokpadaoaaGreatDoor
