/- Printed by program: the small code of functions, and that it is theirs. -/
import Derived.Test.YtaiajnehnjnadaaDoorSxStill
import Derived.Test.YtaiajnehnjnadaaDoorProg
import Derived.KernelRfl
set_option linter.unusedSimpArgs false
set_option linter.unusedVariables false
set_option linter.unnecessarySimpa false
namespace Go.Proofs.YtaiajnehnjnadaaDoor
open Go Go.Sx
set_option maxRecDepth 100000
def T3n0:XC:=.seq (.ops [zm 19 5,zx 20 (.cmp .eql .i64 (.tmp 19) (.const (.int .i64 2))),zm 21 20,zh 22 21 true 4,zg 23 21 true (.eqs .eql (.tmp 22) (.const (.string (ByteArray.mk (Array.mk []))))),zx 24 (.pick (.tmp 21) (.tmp 23) (.const (.bool false))),zm 2 24]) .ret
def T3n1:XC:=.seq (.ops [zm 28 5,zx 29 (.cmp .eql .i64 (.tmp 28) (.const (.int .i64 0))),zm 2 29]) .ret
def T3n2:XC:=.seq (.ops [zm 35 4,zm 36 6,zx 37 (.eqs .eql (.tmp 35) (.tmp 36)),zm 38 37,zh 39 38 true 5,zh 40 38 true 7,zg 41 38 true (.cmp .eql .i64 (.tmp 39) (.tmp 40)),zx 42 (.pick (.tmp 38) (.tmp 41) (.const (.bool false))),zm 43 42,zh 44 43 true 3,zh 45 43 true 0,.mk (some 46) (some (43,true)) (.call 9 [.tmp 44,.tmp 45]),zx 47 (.pick (.tmp 43) (.tmp 46) (.const (.bool false))),zm 2 47]) .ret
def T3n3:XC:=.seq (.ops [zm 31 0,zc 32 8 [.tmp 31],zm 30 32,zy 33 30 0,zy 34 30 1,zm 6 33,zm 7 34]) (.ref 2)
def T3n4:XC:=.seq (.seq (.ops [zm 25 0,ze 26 25,zx 27 (.cmp .gtr .i64 (.tmp 26) (.const (.int .i64 200)))]) (.cond (.tmp 27) (.ref 1) .skip)) (.ref 3)
def T3n5:XC:=.seq (.seq (.ops [zm 16 0,ze 17 16,zx 18 (.cmp .gtr .i64 (.tmp 17) (.const (.int .i64 1024)))]) (.cond (.tmp 18) (.ref 0) .skip)) (.ref 4)
def T3n6:XC:=.seq (.ops [zm 12 3,zc 13 7 [.tmp 12],zm 11 13,zy 14 11 0,zy 15 11 1,zm 4 14,zm 5 15]) (.ref 5)
def T3n7:XC:=.seq (.ops [zx 8 (.buildS 43 0 5 [.int .i64 0,.int .i64 0,.int .i64 0,.int .i64 0,.int .i64 0] []),zm 9 0,zx 10 (.app 43 5 40 (.tmp 8) (.tmp 9)),zm 3 10]) (.ref 6)
def T3:Nat→XC
 | 0=>T3n0
 | 1=>T3n1
 | 2=>T3n2
 | 3=>T3n3
 | 4=>T3n4
 | 5=>T3n5
 | 6=>T3n6
 | 7=>T3n7
 | _=>.skip
theorem t3n0:T3 0=T3n0:=rfl
theorem t3n1:T3 1=T3n1:=rfl
theorem t3n2:T3 2=T3n2:=rfl
theorem t3n3:T3 3=T3n3:=rfl
theorem t3n4:T3 4=T3n4:=rfl
theorem t3n5:T3 5=T3n5:=rfl
theorem t3n6:T3 6=T3n6:=rfl
theorem t3n7:T3 7=T3n7:=rfl
def X3:XC:=.seq (.ops [zx 2 (.mov (.const (.bool false)))]) (.ref 7)
theorem n3:Tryd.f3.ntmps=48:=by kernel_rfl
theorem x3:cmpF Tryd.prog Tryd.f3=some (expand T3 9 X3):=by kernel_rfl
def T7n0:XC:=.seq (.ops [zx 2 (.mov (.const (.string (ByteArray.mk (Array.mk []))))),zx 3 (.mov (.const (.int .i64 2)))]) .ret
def T7n1:XC:=.ops [zx 34 (.load [.map] false (.tmp 4)),zm 35 7,zn (.mupd (.int .i64) (.tmp 34) (.tmp 35) (.const (.int .i64 1)))]
def T7n2:XC:=.seq (.ops [zm 33 8]) (.cond (.tmp 33) (.ref 1) .skip)
def T7n3:XC:=.seq (.ops [zi 27 6,zm 28 0,ze 29 28,zc 30 13 [.tmp 27,.tmp 29],zm 26 30,zy 31 26 0,zy 32 26 1,zm 7 31,zm 8 32]) (.ref 2)
def T7n4:XC:=.seq (.blk 1 (.seq (.ops [zd 24 5 20 22,zi 25 24,zx 6 (.alloc 43 [.int .i64 0,.int .i64 0,.int .i64 0,.int .i64 0,.int .i64 0]),zn (.store 5 (.tmp 6) (.tmp 25))]) (.ref 3))) (.ops [zp 36 22,zm 22 36])
def T7n5:XC:=.seq (.cond (.tmp 23) .skip (.exit 0)) (.ref 4)
def T7n6:XC:=.seq (.ops [zk 23 .lss 22 21]) (.ref 5)
def T7n7:XC:=.ops [zm 58 13,zm 59 13,zm 64 14,zc 60 18 [.tmp 59,.const (.int .u8 32)],zp 61 60,zx 62 (.subT (.tmp 58) none (some (.tmp 61))),zx 63 (.cat (.tmp 62) (.const (.string (ByteArray.mk (Array.mk [UInt8.ofNat 108]))))),zc 65 16 [.tmp 64],zx 66 (.cat (.tmp 63) (.tmp 65)),zm 13 66]
def T7n8:XC:=.seq (.ops [zm 57 15]) (.cond (.tmp 57) (.ref 7) .skip)
def T7n9:XC:=.ops [zm 67 13,zx 68 (.cat (.tmp 67) (.const (.string (ByteArray.mk (Array.mk [UInt8.ofNat 10]))))),zc 69 15 [.tmp 9,.tmp 68]]
def T7n10:XC:=.seq (.seq (.ops [zi 51 12,zm 52 0,ze 53 52,zc 54 13 [.tmp 51,.tmp 53],zm 50 54,zy 55 50 0,zy 56 50 1,zm 14 55,zm 15 56]) (.ref 8)) (.ref 9)
def T7n11:XC:=.seq (.ops [zi 48 12,zc 49 17 [.tmp 48],zm 13 49]) (.ref 10)
def T7n12:XC:=.seq (.ops [zm 45 10,zm 46 11,.mk (some 47) none (.callv (.tmp 45) [.tmp 46])]) (.ref 11)
def T7n13:XC:=.seq (.blk 3 (.seq (.ops [zm 42 40,zd 43 5 38 40,zi 44 43,zx 12 (.alloc 43 [.int .i64 0,.int .i64 0,.int .i64 0,.int .i64 0,.int .i64 0]),zm 11 42,zn (.store 5 (.tmp 12) (.tmp 44))]) (.ref 12))) (.ops [zp 70 40,zm 40 70])
def T7n14:XC:=.seq (.cond (.tmp 41) .skip (.exit 2)) (.ref 13)
def T7n15:XC:=.seq (.ops [zk 41 .lss 40 39]) (.ref 14)
def T7n16:XC:=.seq (.ops [zc 75 19 [.tmp 9],zm 2 75,zx 3 (.mov (.const (.int .i64 0)))]) .ret
def T7n17:XC:=.seq (.ops [zm 71 10,zm 72 0,ze 73 72,.mk (some 74) none (.callv (.tmp 71) [.tmp 73])]) (.ref 16)
def T7n18:XC:=.seq (.seq (.ops [zm 38 0,ze 39 38,zx 40 (.mov (.const (.int .i64 0)))]) (.blk 2 (.loop (.ref 15)))) (.ref 17)
def T7n19:XC:=.seq (.ops [zx 37 (.mkfn (.func 14) [] [.tmp 4,.tmp 9]),zm 10 37]) (.ref 18)
def T7n20:XC:=.seq (.ops [zx 9 (.alloc 48 [.pointer none,.slice none 0 0])]) (.ref 19)
def T7n21:XC:=.seq (.seq (.ops [zm 20 0,ze 21 20,zx 22 (.mov (.const (.int .i64 0)))]) (.blk 0 (.loop (.ref 6)))) (.ref 20)
def T7n22:XC:=.seq (.ops [.mk (some 19) none (.k .mkmap),zx 4 (.alloc 41 [.map none]),zn (.store 1 (.tmp 4) (.tmp 19))]) (.ref 21)
def T7n23:XC:=.seq (.seq (.ops [zm 16 0,ze 17 16,zx 18 (.cmp .gtr .i64 (.tmp 17) (.const (.int .i64 1024)))]) (.cond (.tmp 18) (.ref 0) .skip)) (.ref 22)
def T7:Nat→XC
 | 0=>T7n0
 | 1=>T7n1
 | 2=>T7n2
 | 3=>T7n3
 | 4=>T7n4
 | 5=>T7n5
 | 6=>T7n6
 | 7=>T7n7
 | 8=>T7n8
 | 9=>T7n9
 | 10=>T7n10
 | 11=>T7n11
 | 12=>T7n12
 | 13=>T7n13
 | 14=>T7n14
 | 15=>T7n15
 | 16=>T7n16
 | 17=>T7n17
 | 18=>T7n18
 | 19=>T7n19
 | 20=>T7n20
 | 21=>T7n21
 | 22=>T7n22
 | 23=>T7n23
 | _=>.skip
theorem t7n0:T7 0=T7n0:=rfl
theorem t7n1:T7 1=T7n1:=rfl
theorem t7n2:T7 2=T7n2:=rfl
theorem t7n3:T7 3=T7n3:=rfl
theorem t7n4:T7 4=T7n4:=rfl
theorem t7n5:T7 5=T7n5:=rfl
theorem t7n6:T7 6=T7n6:=rfl
theorem t7n7:T7 7=T7n7:=rfl
theorem t7n8:T7 8=T7n8:=rfl
theorem t7n9:T7 9=T7n9:=rfl
theorem t7n10:T7 10=T7n10:=rfl
theorem t7n11:T7 11=T7n11:=rfl
theorem t7n12:T7 12=T7n12:=rfl
theorem t7n13:T7 13=T7n13:=rfl
theorem t7n14:T7 14=T7n14:=rfl
theorem t7n15:T7 15=T7n15:=rfl
theorem t7n16:T7 16=T7n16:=rfl
theorem t7n17:T7 17=T7n17:=rfl
theorem t7n18:T7 18=T7n18:=rfl
theorem t7n19:T7 19=T7n19:=rfl
theorem t7n20:T7 20=T7n20:=rfl
theorem t7n21:T7 21=T7n21:=rfl
theorem t7n22:T7 22=T7n22:=rfl
theorem t7n23:T7 23=T7n23:=rfl
def X7:XC:=.seq (.ops [zx 2 (.mov (.const (.string (ByteArray.mk (Array.mk []))))),zx 3 (.mov (.const (.int .i64 0)))]) (.ref 23)
abbrev K7:List Nat:=[0,2,3,4,6,7,8,9,10,11,12,13,14,15,18,20,21,22,23,33,38,39,40,41,57]
theorem n7:Tryd.f7.ntmps=76:=by kernel_rfl
theorem r7:resT Tryd.f7.results.toList=some [2,3]:=by kernel_rfl
theorem x7:cmpF Tryd.prog Tryd.f7=some (expand T7 25 X7):=by kernel_rfl
def T13n0:XC:=.seq (.ops [zf 6 4 2,zl 7 6,zf 8 0 2,zl 9 8,zc 10 25 [.tmp 9],.mk none none (.still 7 (.load [.int .i64] false (.tmp 6))),zm 11 10,zg 12 11 true (.load [.int .i64,.int .i64,.int .i64,.int .i64,.int .i64] true (.tmp 2)),.mk (some 13) (some (11,true)) (.call 26 [.tmp 12]),.mk none none (.still 7 (.load [.int .i64] false (.tmp 6))),zx 14 (.pick (.tmp 11) (.tmp 13) (.const (.bool false))),zm 15 14,zg 16 15 true (.fld 4 (.tmp 2)),zg 17 15 true (.load [.int .i64] false (.tmp 16)),zg 18 15 true (.cmp .geq .i64 (.tmp 17) (.const (.int .i64 0))),zx 19 (.pick (.tmp 15) (.tmp 18) (.const (.bool false))),zm 20 19,zg 21 20 true (.fld 4 (.tmp 2)),zg 22 20 true (.load [.int .i64] false (.tmp 21)),zh 23 20 true 1,zg 24 20 true (.cmp .leq .i64 (.tmp 22) (.tmp 23)),zx 25 (.pick (.tmp 20) (.tmp 24) (.const (.bool false))),zm 26 25,zg 27 26 true (.load [.int .i64,.int .i64,.int .i64,.int .i64,.int .i64] true (.tmp 2)),.mk (some 28) (some (26,true)) (.call 17 [.tmp 27]),.mk none none (.still 7 (.load [.int .i64] false (.tmp 6))),.mk (some 29) (some (26,true)) (.call 27 [.tmp 28,.const (.string (ByteArray.mk (Array.mk [UInt8.ofNat 114,UInt8.ofNat 97,UInt8.ofNat 119])))]),.mk none none (.still 7 (.load [.int .i64] false (.tmp 6))),zg 30 26 true (.not (.tmp 29)),zx 31 (.pick (.tmp 26) (.tmp 30) (.const (.bool false))),zm 4 7,zm 5 31]) .ret
def T13:Nat→XC
 | 0=>T13n0
 | _=>.skip
theorem t13n0:T13 0=T13n0:=rfl
def X13:XC:=.seq (.ops [zx 2 (.box 43 5 (.tmp 0)),zx 4 (.mov (.const (.int .i64 0))),zx 5 (.mov (.const (.bool false)))]) (.ref 0)
abbrev K13:List Nat:=[0,1,2,4,5]
theorem n13:Tryd.f13.ntmps=32:=by kernel_rfl
theorem r13:resT Tryd.f13.results.toList=some [4,5]:=by kernel_rfl
theorem x13:cmpF Tryd.prog Tryd.f13=some (expand T13 2 X13):=by kernel_rfl
def T14n0:XC:=.ops [zm 8 0,zc 9 16 [.tmp 8],zx 10 (.cat (.const (.string (ByteArray.mk (Array.mk [UInt8.ofNat 108])))) (.tmp 9)),zx 11 (.cat (.tmp 10) (.const (.string (ByteArray.mk (Array.mk [UInt8.ofNat 58,UInt8.ofNat 10]))))),zc 12 15 [.tmp 2,.tmp 11]]
def T14:Nat→XC
 | 0=>T14n0
 | _=>.skip
theorem t14n0:T14 0=T14n0:=rfl
def X14:XC:=.seq (.ops [zx 4 (.load [.map] false (.tmp 1)),zm 5 0,zx 6 (.lkup (.int .i64) (.int .i64 0) false (.tmp 4) (.tmp 5)),zx 7 (.cmp .gtr .i64 (.tmp 6) (.const (.int .i64 0)))]) (.cond (.tmp 7) (.ref 0) .skip)
abbrev K14:List Nat:=[0,1,2,7]
theorem n14:Tryd.f14.ntmps=13:=by kernel_rfl
theorem r14:resT Tryd.f14.results.toList=some []:=by kernel_rfl
theorem x14:cmpF Tryd.prog Tryd.f14=some (expand T14 2 X14):=by kernel_rfl
attribute [go_sem] t3n0 t3n1 t3n2 t3n3 t3n4 t3n5 t3n6 t3n7 T3n0 T3n1 T3n2 T3n3 T3n4 T3n5 T3n6 T3n7 X3
attribute [go_sem] t7n0 t7n1 t7n2 t7n3 t7n4 t7n5 t7n6 t7n7 t7n8 t7n9 t7n10 t7n11 t7n12 t7n13 t7n14 t7n15 t7n16 t7n17 t7n18 t7n19 t7n20 t7n21 t7n22 t7n23 T7n0 T7n1 T7n2 T7n3 T7n4 T7n5 T7n6 T7n7 T7n8 T7n9 T7n10 T7n11 T7n12 T7n13 T7n14 T7n15 T7n16 T7n17 T7n18 T7n19 T7n20 T7n21 T7n22 T7n23 X7
attribute [go_sem] t13n0 T13n0 X13
attribute [go_sem] t14n0 T14n0 X14
end Go.Proofs.YtaiajnehnjnadaaDoor
