/- Printed by program: the small code of functions, and that it is theirs. -/
import Derived.Test.YtgghmmjoplddbaaGreatDoorSxStill
import Derived.Test.YtgghmmjoplddbaaGreatDoorProg
import Derived.KernelRfl
set_option linter.unusedSimpArgs false
set_option linter.unusedVariables false
set_option linter.unnecessarySimpa false
namespace Go.Proofs.YtgghmmjoplddbaaGreatDoor
open Go Go.Sx
set_option maxRecDepth 100000
def T6n0:XC:=.seq (.ops [zx 1 (.buildS 9 1 1 [.string (ByteArray.mk (Array.mk []))] [(0,.const (.string (ByteArray.mk (Array.mk [UInt8.ofNat 117,UInt8.ofNat 110,UInt8.ofNat 115,UInt8.ofNat 101,UInt8.ofNat 116,UInt8.ofNat 32,UInt8.ofNat 97,UInt8.ofNat 116,UInt8.ofNat 32,UInt8.ofNat 49]))))]),.mk (some 2) none (.call 18 [.const (.string (ByteArray.mk (Array.mk [UInt8.ofNat 115,UInt8.ofNat 101,UInt8.ofNat 116,UInt8.ofNat 32,UInt8.ofNat 49,UInt8.ofNat 32,UInt8.ofNat 53,UInt8.ofNat 10,UInt8.ofNat 115,UInt8.ofNat 116,UInt8.ofNat 111,UInt8.ofNat 114,UInt8.ofNat 101,UInt8.ofNat 32,UInt8.ofNat 49,UInt8.ofNat 32,UInt8.ofNat 48,UInt8.ofNat 32,UInt8.ofNat 49,UInt8.ofNat 10,UInt8.ofNat 104,UInt8.ofNat 97,UInt8.ofNat 108,UInt8.ofNat 116]))),.tmp 1]),zm 3 2,zg 4 3 true (.buildS 9 2 1 [.string (ByteArray.mk (Array.mk []))] [(0,.const (.string (ByteArray.mk (Array.mk [UInt8.ofNat 98,UInt8.ofNat 101,UInt8.ofNat 103,UInt8.ofNat 105,UInt8.ofNat 110,UInt8.ofNat 32,UInt8.ofNat 97,UInt8.ofNat 116,UInt8.ofNat 32,UInt8.ofNat 49])))),(1,.const (.string (ByteArray.mk (Array.mk [UInt8.ofNat 110,UInt8.ofNat 101,UInt8.ofNat 118,UInt8.ofNat 101,UInt8.ofNat 114,UInt8.ofNat 32,UInt8.ofNat 97,UInt8.ofNat 116,UInt8.ofNat 32,UInt8.ofNat 50]))))]),.mk (some 5) (some (3,true)) (.call 18 [.const (.string (ByteArray.mk (Array.mk [UInt8.ofNat 98,UInt8.ofNat 101,UInt8.ofNat 103,UInt8.ofNat 105,UInt8.ofNat 110,UInt8.ofNat 10,UInt8.ofNat 98,UInt8.ofNat 101,UInt8.ofNat 103,UInt8.ofNat 105,UInt8.ofNat 110,UInt8.ofNat 10,UInt8.ofNat 101,UInt8.ofNat 110,UInt8.ofNat 100]))),.tmp 4]),zx 6 (.pick (.tmp 3) (.tmp 5) (.const (.bool false))),zm 0 6]) .ret
def T6:Nat→XC
 | 0=>T6n0
 | _=>.skip
theorem t6n0:T6 0=T6n0:=rfl
def X6:XC:=.seq (.ops [zx 0 (.mov (.const (.bool false)))]) (.ref 0)
abbrev K6:List Nat:=[0]
theorem n6:Tryz.f6.ntmps=7:=by kernel_rfl
theorem r6:resT Tryz.f6.results.toList=some [0]:=by kernel_rfl
theorem x6:cmpF Tryz.prog Tryz.f6=some (expand T6 2 X6):=by kernel_rfl
def T18n0:XC:=.seq (.ops [zx 4 (.mov (.const (.bool false)))]) .ret
def T18n1:XC:=.seq (.ops [zx 4 (.mov (.const (.bool false)))]) .ret
def T18n2:XC:=.seq (.ops [zm 46 11,zm 47 1,zm 48 10,zd 49 1 47 48,zx 50 (.load [.str] false (.tmp 49)),zx 51 (.eqs .neq (.tmp 46) (.tmp 50))]) (.cond (.tmp 51) (.ref 1) .skip)
def T18n3:XC:=.seq (.ops [zm 41 8,zm 42 10,zd 43 2 41 42,zx 44 (.load [.int .i64,.int .i64] true (.tmp 43)),zc 45 41 [.tmp 44],zm 11 45]) (.ref 2)
def T18n4:XC:=.seq (.blk 1 (.seq (.ops [zm 40 38,zm 10 40]) (.ref 3))) (.ops [zp 52 38,zm 38 52])
def T18n5:XC:=.seq (.cond (.tmp 39) .skip (.exit 0)) (.ref 4)
def T18n6:XC:=.seq (.ops [zk 39 .lss 38 37]) (.ref 5)
def T18n7:XC:=.seq (.ops [zx 4 (.mov (.const (.bool true)))]) .ret
def T18n8:XC:=.seq (.seq (.ops [zm 36 8,ze 37 36,zx 38 (.mov (.const (.int .i64 0)))]) (.blk 0 (.loop (.ref 6)))) (.ref 7)
def T18n9:XC:=.seq (.seq (.ops [zm 23 7,zx 24 (.cmp .neq .i64 (.tmp 23) (.const (.int .i64 0))),zm 25 24,zh 26 25 false 9,zg 27 25 false (.cmp .neq .i64 (.tmp 26) (.const (.int .i64 0))),zx 28 (.pick (.tmp 25) (.const (.bool true)) (.tmp 27)),zm 29 28,zh 30 29 false 8,zg 31 29 false (.lenS (.tmp 30)),zh 32 29 false 1,zg 33 29 false (.lenS (.tmp 32)),zg 34 29 false (.cmp .neq .i64 (.tmp 31) (.tmp 33)),zx 35 (.pick (.tmp 29) (.const (.bool true)) (.tmp 34))]) (.cond (.tmp 35) (.ref 0) .skip)) (.ref 8)
def T18n10:XC:=.seq (.ops [zm 19 5,zc 20 7 [.tmp 19],zm 18 20,zy 21 18 0,zy 22 18 1,zm 8 21,zm 9 22]) (.ref 9)
def T18n11:XC:=.seq (.ops [zm 13 0,zc 14 40 [.tmp 13],zm 12 14,zy 15 12 0,zy 16 12 1,zy 17 12 2,zm 5 15,zm 6 16,zm 7 17]) (.ref 10)
def T18:Nat→XC
 | 0=>T18n0
 | 1=>T18n1
 | 2=>T18n2
 | 3=>T18n3
 | 4=>T18n4
 | 5=>T18n5
 | 6=>T18n6
 | 7=>T18n7
 | 8=>T18n8
 | 9=>T18n9
 | 10=>T18n10
 | 11=>T18n11
 | _=>.skip
theorem t18n0:T18 0=T18n0:=rfl
theorem t18n1:T18 1=T18n1:=rfl
theorem t18n2:T18 2=T18n2:=rfl
theorem t18n3:T18 3=T18n3:=rfl
theorem t18n4:T18 4=T18n4:=rfl
theorem t18n5:T18 5=T18n5:=rfl
theorem t18n6:T18 6=T18n6:=rfl
theorem t18n7:T18 7=T18n7:=rfl
theorem t18n8:T18 8=T18n8:=rfl
theorem t18n9:T18 9=T18n9:=rfl
theorem t18n10:T18 10=T18n10:=rfl
theorem t18n11:T18 11=T18n11:=rfl
def X18:XC:=.seq (.ops [zx 4 (.mov (.const (.bool false)))]) (.ref 11)
abbrev K18:List Nat:=[0,1,4,5,7,8,9,10,11,35,37,38,39,51]
theorem n18:Tryz.f18.ntmps=53:=by kernel_rfl
theorem r18:resT Tryz.f18.results.toList=some [4]:=by kernel_rfl
theorem x18:cmpF Tryz.prog Tryz.f18=some (expand T18 13 X18):=by kernel_rfl
def T41n0:XC:=.ops [zf 14 0 1,zl 15 14,zx 16 (.idxA 9 1 (.global 1) (.tmp 15)),zx 17 (.load [.str] false (.tmp 16)),zm 3 17]
def T41n1:XC:=.seq (.ops [zm 18 3,zx 19 (.cat (.tmp 18) (.const (.string (ByteArray.mk (Array.mk [UInt8.ofNat 32,UInt8.ofNat 97,UInt8.ofNat 116,UInt8.ofNat 32]))))),zf 20 1 1,zl 21 20,zc 22 68 [.tmp 21],zx 23 (.cat (.tmp 19) (.tmp 22)),zm 2 23]) .ret
def T41n2:XC:=.seq (.seq (.ops [zf 6 0 1,zl 7 6,zx 8 (.cmp .gtr .i64 (.tmp 7) (.const (.int .i64 0))),zm 9 8,zg 10 9 true (.fld 0 (.tmp 1)),zg 11 9 true (.load [.int .i64] false (.tmp 10)),zg 12 9 true (.cmp .lss .i64 (.tmp 11) (.const (.int .i64 9))),zx 13 (.pick (.tmp 9) (.tmp 12) (.const (.bool false)))]) (.cond (.tmp 13) (.ref 0) .skip)) (.ref 1)
def T41n3:XC:=.seq (.ops [zx 4 (.idxA 9 1 (.global 1) (.const (.int .i64 0))),zx 5 (.load [.str] false (.tmp 4)),zm 3 5]) (.ref 2)
def T41:Nat→XC
 | 0=>T41n0
 | 1=>T41n1
 | 2=>T41n2
 | 3=>T41n3
 | _=>.skip
theorem t41n0:T41 0=T41n0:=rfl
theorem t41n1:T41 1=T41n1:=rfl
theorem t41n2:T41 2=T41n2:=rfl
theorem t41n3:T41 3=T41n3:=rfl
def X41:XC:=.seq (.ops [zx 1 (.box 33 2 (.tmp 0)),zx 2 (.mov (.const (.string (ByteArray.mk (Array.mk [])))))]) (.ref 3)
abbrev K41:List Nat:=[0,1,2,3,13]
theorem n41:Tryz.f41.ntmps=24:=by kernel_rfl
theorem r41:resT Tryz.f41.results.toList=some [2]:=by kernel_rfl
theorem x41:cmpF Tryz.prog Tryz.f41=some (expand T41 5 X41):=by kernel_rfl
attribute [go_sem] t6n0 T6n0 X6
attribute [go_sem] t18n0 t18n1 t18n2 t18n3 t18n4 t18n5 t18n6 t18n7 t18n8 t18n9 t18n10 t18n11 T18n0 T18n1 T18n2 T18n3 T18n4 T18n5 T18n6 T18n7 T18n8 T18n9 T18n10 T18n11 X18
attribute [go_sem] t41n0 t41n1 t41n2 t41n3 T41n0 T41n1 T41n2 T41n3 X41
end Go.Proofs.YtgghmmjoplddbaaGreatDoor
