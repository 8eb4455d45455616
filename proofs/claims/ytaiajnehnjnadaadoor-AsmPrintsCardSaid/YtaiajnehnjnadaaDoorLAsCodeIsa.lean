/- Printed by program: the small code of functions, and that it is theirs. -/
import Derived.Test.YtaiajnehnjnadaaDoorSxStill
import Derived.Test.YtaiajnehnjnadaaDoorProg
import Derived.KernelRfl
set_option linter.unusedSimpArgs false
set_option linter.unusedVariables false
set_option linter.unnecessarySimpa false
namespace Go.Proofs.YtaiajnehnjnadaaDoor
open Go Go.Sx
set_option maxRecDepth 100000
def T17n0:XC:=.ops [zf 9 0 1,zl 10 9,zx 11 (.idxA 19 2 (.global 0) (.tmp 10)),zf 12 0 11,zx 13 (.load [.str] false (.tmp 12)),zf 14 0 1,zl 15 14,zx 16 (.idxA 19 2 (.global 0) (.tmp 15)),zf 17 1 16,zx 18 (.load [.str] false (.tmp 17)),zm 3 13,zm 4 18]
def T17n1:XC:=.ops [zm 26 3,zm 27 6,zc 28 31 [.tmp 1,.tmp 27],zx 29 (.nilc (.tmp 28)),zl 30 29,zc 31 16 [.tmp 30],zx 32 (.cat (.const (.string (ByteArray.mk (Array.mk [UInt8.ofNat 32])))) (.tmp 31)),zx 33 (.cat (.tmp 26) (.tmp 32)),zm 3 33]
def T17n2:XC:=.seq (.blk 1 (.seq (.ops [zd 24 1 20 22,zx 25 (.load [.int .u8] false (.tmp 24)),zm 6 25]) (.ref 1))) (.ops [zp 34 22,zm 22 34])
def T17n3:XC:=.seq (.cond (.tmp 23) .skip (.exit 0)) (.ref 2)
def T17n4:XC:=.seq (.ops [zk 23 .lss 22 21]) (.ref 3)
def T17n5:XC:=.seq (.ops [zm 35 3,zm 2 35]) .ret
def T17n6:XC:=.seq (.seq (.ops [zm 19 4,zx 20 (.s2b 5 (.tmp 19)),ze 21 20,zx 22 (.mov (.const (.int .i64 0)))]) (.blk 0 (.loop (.ref 4)))) (.ref 5)
def T17n7:XC:=.seq (.seq (.ops [zi 7 1,zc 8 30 [.tmp 7]]) (.cond (.tmp 8) (.ref 0) .skip)) (.ref 6)
def T17n8:XC:=.seq (.ops [zx 3 (.mov (.const (.string (ByteArray.mk (Array.mk [UInt8.ofNat 114,UInt8.ofNat 97,UInt8.ofNat 119]))))),zx 4 (.mov (.const (.string (ByteArray.mk (Array.mk [UInt8.ofNat 79,UInt8.ofNat 65,UInt8.ofNat 66,UInt8.ofNat 67,UInt8.ofNat 73])))))]) (.ref 7)
def T17:Nat→XC
 | 0=>T17n0
 | 1=>T17n1
 | 2=>T17n2
 | 3=>T17n3
 | 4=>T17n4
 | 5=>T17n5
 | 6=>T17n6
 | 7=>T17n7
 | 8=>T17n8
 | _=>.skip
theorem t17n0:T17 0=T17n0:=rfl
theorem t17n1:T17 1=T17n1:=rfl
theorem t17n2:T17 2=T17n2:=rfl
theorem t17n3:T17 3=T17n3:=rfl
theorem t17n4:T17 4=T17n4:=rfl
theorem t17n5:T17 5=T17n5:=rfl
theorem t17n6:T17 6=T17n6:=rfl
theorem t17n7:T17 7=T17n7:=rfl
theorem t17n8:T17 8=T17n8:=rfl
def X17:XC:=.seq (.ops [zx 1 (.box 43 5 (.tmp 0)),zx 2 (.mov (.const (.string (ByteArray.mk (Array.mk [])))))]) (.ref 8)
abbrev K17:List Nat:=[0,1,2,3,4,6,8,20,21,22,23]
theorem n17:Tryd.f17.ntmps=36:=by kernel_rfl
theorem r17:resT Tryd.f17.results.toList=some [2]:=by kernel_rfl
theorem x17:cmpF Tryd.prog Tryd.f17=some (expand T17 10 X17):=by kernel_rfl
def T31n0:XC:=.seq (.ops [zm 8 0,zx 9 (.nilc (.tmp 8)),zf 10 1 9,zm 4 10]) .ret
def T31n1:XC:=.seq (.ops [zm 13 0,zx 14 (.nilc (.tmp 13)),zf 15 2 14,zm 4 15]) .ret
def T31n2:XC:=.seq (.ops [zm 18 0,zx 19 (.nilc (.tmp 18)),zf 20 3 19,zm 4 20]) .ret
def T31n3:XC:=.seq (.ops [zm 23 0,zx 24 (.nilc (.tmp 23)),zf 25 4 24,zm 4 25]) .ret
def T31n4:XC:=.seq (.ops [zx 22 (.cmp .eql .u8 (.tmp 5) (.const (.int .u8 73))),zm 21 22]) (.cond (.tmp 21) (.ref 3) .skip)
def T31n5:XC:=.seq (.ops [zx 17 (.cmp .eql .u8 (.tmp 5) (.const (.int .u8 67))),zm 16 17]) (.cond (.tmp 16) (.ref 2) (.ref 4))
def T31n6:XC:=.seq (.ops [zx 12 (.cmp .eql .u8 (.tmp 5) (.const (.int .u8 66))),zm 11 12]) (.cond (.tmp 11) (.ref 1) (.ref 5))
def T31n7:XC:=.blk 0 (.seq (.ops [zx 7 (.cmp .eql .u8 (.tmp 5) (.const (.int .u8 65))),zm 6 7]) (.cond (.tmp 6) (.ref 0) (.ref 6)))
def T31n8:XC:=.seq (.ops [zm 26 0,zx 27 (.nilc (.tmp 26)),zf 28 0 27,zm 4 28]) .ret
def T31n9:XC:=.seq (.seq (.ops [zm 5 1]) (.ref 7)) (.ref 8)
def T31:Nat→XC
 | 0=>T31n0
 | 1=>T31n1
 | 2=>T31n2
 | 3=>T31n3
 | 4=>T31n4
 | 5=>T31n5
 | 6=>T31n6
 | 7=>T31n7
 | 8=>T31n8
 | 9=>T31n9
 | _=>.skip
theorem t31n0:T31 0=T31n0:=rfl
theorem t31n1:T31 1=T31n1:=rfl
theorem t31n2:T31 2=T31n2:=rfl
theorem t31n3:T31 3=T31n3:=rfl
theorem t31n4:T31 4=T31n4:=rfl
theorem t31n5:T31 5=T31n5:=rfl
theorem t31n6:T31 6=T31n6:=rfl
theorem t31n7:T31 7=T31n7:=rfl
theorem t31n8:T31 8=T31n8:=rfl
theorem t31n9:T31 9=T31n9:=rfl
def X31:XC:=.seq (.ops [zx 4 (.mov (.const (.pointer none)))]) (.ref 9)
abbrev K31:List Nat:=[0,1,4,5,6,11,16,21]
theorem n31:Tryd.f31.ntmps=29:=by kernel_rfl
theorem r31:resT Tryd.f31.results.toList=some [4]:=by kernel_rfl
theorem x31:cmpF Tryd.prog Tryd.f31=some (expand T31 11 X31):=by kernel_rfl
def T30n0:XC:=.seq (.ops [zx 2 (.mov (.const (.bool false)))]) .ret
def T30n1:XC:=.seq (.ops [zx 2 (.mov (.const (.bool false)))]) .ret
def T30n2:XC:=.seq (.ops [zf 15 0 1,zl 16 15,zx 17 (.idxA 19 2 (.global 0) (.tmp 16)),zf 18 1 17,zx 19 (.load [.str] false (.tmp 18)),zm 20 4,zc 21 42 [.tmp 19,.tmp 20],zx 22 (.cmp .lss .i64 (.tmp 21) (.const (.int .i64 0))),zm 23 22,zh 24 23 true 4,.mk (some 25) (some (23,true)) (.call 31 [.tmp 1,.tmp 24]),zg 26 23 true (.nilc (.tmp 25)),zg 27 23 true (.load [.int .i64] false (.tmp 26)),zg 28 23 true (.cmp .neq .i64 (.tmp 27) (.const (.int .i64 0))),zx 29 (.pick (.tmp 23) (.tmp 28) (.const (.bool false)))]) (.cond (.tmp 29) (.ref 1) .skip)
def T30n3:XC:=.seq (.blk 1 (.seq (.ops [zd 13 1 9 11,zx 14 (.load [.int .u8] false (.tmp 13)),zm 4 14]) (.ref 2))) (.ops [zp 30 11,zm 11 30])
def T30n4:XC:=.seq (.cond (.tmp 12) .skip (.exit 0)) (.ref 3)
def T30n5:XC:=.seq (.ops [zk 12 .lss 11 10]) (.ref 4)
def T30n6:XC:=.seq (.ops [zx 2 (.mov (.const (.bool true)))]) .ret
def T30n7:XC:=.seq (.seq (.ops [zx 8 (.buildS 5 4 1 [.int .u8 0] [(0,.const (.int .u8 65)),(1,.const (.int .u8 66)),(2,.const (.int .u8 67)),(3,.const (.int .u8 73))]),zx 9 (.mrk (.tmp 8)),ze 10 9,zx 11 (.mov (.const (.int .i64 0)))]) (.blk 0 (.loop (.ref 5)))) (.ref 6)
def T30n8:XC:=.seq (.seq (.ops [zi 5 1,zc 6 26 [.tmp 5],zx 7 (.not (.tmp 6))]) (.cond (.tmp 7) (.ref 0) .skip)) (.ref 7)
def T30:Nat→XC
 | 0=>T30n0
 | 1=>T30n1
 | 2=>T30n2
 | 3=>T30n3
 | 4=>T30n4
 | 5=>T30n5
 | 6=>T30n6
 | 7=>T30n7
 | 8=>T30n8
 | _=>.skip
theorem t30n0:T30 0=T30n0:=rfl
theorem t30n1:T30 1=T30n1:=rfl
theorem t30n2:T30 2=T30n2:=rfl
theorem t30n3:T30 3=T30n3:=rfl
theorem t30n4:T30 4=T30n4:=rfl
theorem t30n5:T30 5=T30n5:=rfl
theorem t30n6:T30 6=T30n6:=rfl
theorem t30n7:T30 7=T30n7:=rfl
theorem t30n8:T30 8=T30n8:=rfl
def X30:XC:=.seq (.ops [zx 1 (.box 43 5 (.tmp 0)),zx 2 (.mov (.const (.bool false)))]) (.ref 8)
abbrev K30:List Nat:=[0,1,2,4,7,9,10,11,12,29]
theorem n30:Tryd.f30.ntmps=31:=by kernel_rfl
theorem r30:resT Tryd.f30.results.toList=some [2]:=by kernel_rfl
theorem x30:cmpF Tryd.prog Tryd.f30=some (expand T30 10 X30):=by kernel_rfl
attribute [go_sem] t17n0 t17n1 t17n2 t17n3 t17n4 t17n5 t17n6 t17n7 t17n8 T17n0 T17n1 T17n2 T17n3 T17n4 T17n5 T17n6 T17n7 T17n8 X17
attribute [go_sem] t31n0 t31n1 t31n2 t31n3 t31n4 t31n5 t31n6 t31n7 t31n8 t31n9 T31n0 T31n1 T31n2 T31n3 T31n4 T31n5 T31n6 T31n7 T31n8 T31n9 X31
attribute [go_sem] t30n0 t30n1 t30n2 t30n3 t30n4 t30n5 t30n6 t30n7 t30n8 T30n0 T30n1 T30n2 T30n3 T30n4 T30n5 T30n6 T30n7 T30n8 X30
end Go.Proofs.YtaiajnehnjnadaaDoor
