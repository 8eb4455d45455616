/- Printed by program: the small code of functions, and that it is theirs. -/
import Derived.Test.YtlbiogokpadaoaaGreatDoorSxStill
import Derived.Test.YtlbiogokpadaoaaGreatDoorProg
import Derived.KernelRfl
set_option linter.unusedSimpArgs false
set_option linter.unusedVariables false
set_option linter.unnecessarySimpa false
namespace Go.Proofs.YtlbiogokpadaoaaGreatDoor
open Go Go.Sx
set_option maxRecDepth 100000
theorem n4:Tryz.f4.ntmps=18:=by kernel_rfl
theorem r4:resT Tryz.f4.results.toList=some [2]:=by kernel_rfl
theorem n15:Tryz.f15.ntmps=95:=by kernel_rfl
def T82n0:XC:=.seq (.ops [zx 2 (.mov (.const (.slice none 0 0)))]) .ret
def T82n1:XC:=.seq (.ops [zx 5 (.buildS 41 0 5 [.int .i64 0,.int .i64 0,.int .i64 0,.int .i64 0,.int .i64 0] []),zm 6 0,zx 7 (.app 41 5 40 (.tmp 5) (.tmp 6)),zm 2 7]) .ret
def T82n2:XC:=.seq (.seq (.ops [zm 3 0,zx 4 (.isnil NK.s false (.tmp 3))]) (.cond (.tmp 4) (.ref 0) .skip)) (.ref 1)
def T82:Nat→XC
 | 0=>T82n0
 | 1=>T82n1
 | 2=>T82n2
 | _=>.skip
theorem t82n0:T82 0=T82n0:=rfl
theorem t82n1:T82 1=T82n1:=rfl
theorem t82n2:T82 2=T82n2:=rfl
def X82:XC:=.seq (.ops [zx 2 (.mov (.const (.slice none 0 0)))]) (.ref 2)
abbrev K82:List Nat:=[0,2,4]
theorem n82:Tryz.f82.ntmps=8:=by kernel_rfl
theorem r82:resT Tryz.f82.results.toList=some [2]:=by kernel_rfl
theorem x82:cmpF Tryz.prog Tryz.f82=some (expand T82 4 X82):=by kernel_rfl
def T56n0:XC:=.seq (.ops [zx 2 (.mov (.const (.slice none 0 0))),zx 3 (.mov (.const (.int .i64 2)))]) .ret
def T56n1:XC:=.seq (.ops [zm 66 11,zx 67 (.not (.tmp 66)),zm 68 67,zh 69 68 false 14,zx 70 (.pick (.tmp 68) (.const (.bool true)) (.tmp 69))]) (.cond (.tmp 70) (.exit 2) .skip)
def T56n2:XC:=.ops [zm 71 0,zm 72 10,zd 73 5 71 72,zf 74 4 73,zl 75 74,zm 10 75]
def T56n3:XC:=.seq (.seq (.ops [zm 57 9,zm 58 0,zm 59 10,zd 60 5 58 59,zf 61 4 60,zl 62 61,zx 63 (.lkup (.int .i64) (.agg (Array.mk [])) true (.tmp 57) (.tmp 62)),zm 56 63,zy 64 56 0,zy 65 56 1,zx 13 (.alloc 131 []),zn (.str0 (.tmp 13) (.tmp 64)),zm 14 65]) (.ref 1)) (.ref 2)
def T56n4:XC:=.seq (.ops [zm 49 0,zm 50 10,zd 51 5 49 50,zi 52 51,zc 53 84 [.tmp 52],zm 48 53,zy 54 48 0,zy 55 48 1,zm 11 54,zm 12 55]) (.ref 3)
def T56n5:XC:=.blk 3 (.seq (.ops [zm 45 9,zm 46 10,zx 47 (.build [] []),zn (.mupd (.int .i64) (.tmp 45) (.tmp 46) (.tmp 47))]) (.ref 4))
def T56n6:XC:=.seq (.seq (.ops [zm 41 10,zm 42 0,ze 43 42,zk 44 .lss 41 43]) (.cond (.tmp 44) .skip (.exit 2))) (.ref 5)
def T56n7:XC:=.ops [zm 76 4,zm 77 5,zm 78 10,zd 79 5 76 77,zf 80 4 79,zn (.store 1 (.tmp 80) (.tmp 78))]
def T56n8:XC:=.seq (.blk 2 (.loop (.ref 6))) (.ref 7)
def T56n9:XC:=.seq (.ops [zf 39 4 6,zl 40 39,zm 10 40]) (.ref 8)
def T56n10:XC:=.seq (.ops [.mk (some 38) none (.k .mkmap),zm 9 38]) (.ref 9)
def T56n11:XC:=.seq (.seq (.ops [zm 32 7,zx 33 (.not (.tmp 32)),zm 34 33,zh 35 34 true 8,zg 36 34 true (.not (.tmp 35)),zx 37 (.pick (.tmp 34) (.tmp 36) (.const (.bool false)))]) (.cond (.tmp 37) (.exit 1) .skip)) (.ref 10)
def T56n12:XC:=.seq (.ops [zi 28 6,zc 29 84 [.tmp 28],zm 27 29,zy 30 27 0,zy 31 27 1,zm 7 30,zm 8 31]) (.ref 11)
def T56n13:XC:=.seq (.blk 1 (.seq (.ops [zm 24 22,zd 25 5 20 22,zi 26 25,zx 6 (.alloc 41 [.int .i64 0,.int .i64 0,.int .i64 0,.int .i64 0,.int .i64 0]),zm 5 24,zn (.store 5 (.tmp 6) (.tmp 26))]) (.ref 12))) (.ops [zp 81 22,zm 22 81])
def T56n14:XC:=.seq (.cond (.tmp 23) .skip (.exit 0)) (.ref 13)
def T56n15:XC:=.seq (.ops [zk 23 .lss 22 21]) (.ref 14)
def T56n16:XC:=.seq (.ops [zm 82 4,zm 2 82,zx 3 (.mov (.const (.int .i64 0)))]) .ret
def T56n17:XC:=.seq (.seq (.ops [zm 20 0,ze 21 20,zx 22 (.mov (.const (.int .i64 0)))]) (.blk 0 (.loop (.ref 15)))) (.ref 16)
def T56n18:XC:=.seq (.ops [zm 18 0,zc 19 82 [.tmp 18],zm 4 19]) (.ref 17)
def T56n19:XC:=.seq (.seq (.ops [zm 15 0,ze 16 15,zx 17 (.cmp .gtr .i64 (.tmp 16) (.const (.int .i64 1024)))]) (.cond (.tmp 17) (.ref 0) .skip)) (.ref 18)
def T56:Nat→XC
 | 0=>T56n0
 | 1=>T56n1
 | 2=>T56n2
 | 3=>T56n3
 | 4=>T56n4
 | 5=>T56n5
 | 6=>T56n6
 | 7=>T56n7
 | 8=>T56n8
 | 9=>T56n9
 | 10=>T56n10
 | 11=>T56n11
 | 12=>T56n12
 | 13=>T56n13
 | 14=>T56n14
 | 15=>T56n15
 | 16=>T56n16
 | 17=>T56n17
 | 18=>T56n18
 | 19=>T56n19
 | _=>.skip
theorem t56n0:T56 0=T56n0:=rfl
theorem t56n1:T56 1=T56n1:=rfl
theorem t56n2:T56 2=T56n2:=rfl
theorem t56n3:T56 3=T56n3:=rfl
theorem t56n4:T56 4=T56n4:=rfl
theorem t56n5:T56 5=T56n5:=rfl
theorem t56n6:T56 6=T56n6:=rfl
theorem t56n7:T56 7=T56n7:=rfl
theorem t56n8:T56 8=T56n8:=rfl
theorem t56n9:T56 9=T56n9:=rfl
theorem t56n10:T56 10=T56n10:=rfl
theorem t56n11:T56 11=T56n11:=rfl
theorem t56n12:T56 12=T56n12:=rfl
theorem t56n13:T56 13=T56n13:=rfl
theorem t56n14:T56 14=T56n14:=rfl
theorem t56n15:T56 15=T56n15:=rfl
theorem t56n16:T56 16=T56n16:=rfl
theorem t56n17:T56 17=T56n17:=rfl
theorem t56n18:T56 18=T56n18:=rfl
theorem t56n19:T56 19=T56n19:=rfl
def X56:XC:=.seq (.ops [zx 2 (.mov (.const (.slice none 0 0))),zx 3 (.mov (.const (.int .i64 0)))]) (.ref 19)
abbrev K56:List Nat:=[0,2,3,4,5,6,7,8,9,10,11,14,17,20,21,22,23,37,44,70]
theorem n56:Tryz.f56.ntmps=83:=by kernel_rfl
theorem r56:resT Tryz.f56.results.toList=some [2,3]:=by kernel_rfl
theorem x56:cmpF Tryz.prog Tryz.f56=some (expand T56 21 X56):=by kernel_rfl
def T84n0:XC:=.seq (.ops [zx 2 (.mov (.const (.bool false))),zx 3 (.mov (.const (.bool false)))]) .ret
def T84n1:XC:=.seq (.ops [zf 17 0 1,zl 18 17,zx 19 (.cmp .eql .i64 (.tmp 18) (.const (.int .i64 13))),zf 20 0 1,zl 21 20,zx 22 (.cmp .geq .i64 (.tmp 21) (.const (.int .i64 14))),zm 23 22,zg 24 23 true (.fld 0 (.tmp 1)),zg 25 23 true (.load [.int .i64] false (.tmp 24)),zg 26 23 true (.cmp .leq .i64 (.tmp 25) (.const (.int .i64 16))),zx 27 (.pick (.tmp 23) (.tmp 26) (.const (.bool false))),zm 2 19,zm 3 27]) .ret
def T84n2:XC:=.seq (.seq (.ops [zi 4 1,zc 5 21 [.tmp 4],zx 6 (.not (.tmp 5)),zm 7 6,zg 8 7 false (.fld 4 (.tmp 1)),zg 9 7 false (.load [.int .i64] false (.tmp 8)),zg 10 7 false (.cmp .lss .i64 (.tmp 9) (.const (.int .i64 0))),zx 11 (.pick (.tmp 7) (.const (.bool true)) (.tmp 10)),zm 12 11,zg 13 12 false (.fld 4 (.tmp 1)),zg 14 12 false (.load [.int .i64] false (.tmp 13)),zg 15 12 false (.cmp .gtr .i64 (.tmp 14) (.const (.int .i64 1024))),zx 16 (.pick (.tmp 12) (.const (.bool true)) (.tmp 15))]) (.cond (.tmp 16) (.ref 0) .skip)) (.ref 1)
def T84:Nat→XC
 | 0=>T84n0
 | 1=>T84n1
 | 2=>T84n2
 | _=>.skip
theorem t84n0:T84 0=T84n0:=rfl
theorem t84n1:T84 1=T84n1:=rfl
theorem t84n2:T84 2=T84n2:=rfl
def X84:XC:=.seq (.ops [zx 1 (.box 41 5 (.tmp 0)),zx 2 (.mov (.const (.bool false))),zx 3 (.mov (.const (.bool false)))]) (.ref 2)
abbrev K84:List Nat:=[0,1,2,3,16]
theorem n84:Tryz.f84.ntmps=28:=by kernel_rfl
theorem r84:resT Tryz.f84.results.toList=some [2,3]:=by kernel_rfl
theorem x84:cmpF Tryz.prog Tryz.f84=some (expand T84 4 X84):=by kernel_rfl
attribute [go_sem] t82n0 t82n1 t82n2 T82n0 T82n1 T82n2 X82
attribute [go_sem] t56n0 t56n1 t56n2 t56n3 t56n4 t56n5 t56n6 t56n7 t56n8 t56n9 t56n10 t56n11 t56n12 t56n13 t56n14 t56n15 t56n16 t56n17 t56n18 t56n19 T56n0 T56n1 T56n2 T56n3 T56n4 T56n5 T56n6 T56n7 T56n8 T56n9 T56n10 T56n11 T56n12 T56n13 T56n14 T56n15 T56n16 T56n17 T56n18 T56n19 X56
attribute [go_sem] t84n0 t84n1 t84n2 T84n0 T84n1 T84n2 X84
end Go.Proofs.YtlbiogokpadaoaaGreatDoor
