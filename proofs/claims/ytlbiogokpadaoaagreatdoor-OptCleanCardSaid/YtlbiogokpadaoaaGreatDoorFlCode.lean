/- Printed by program: the small code of functions, and that it is theirs. -/
import Derived.Test.YtlbiogokpadaoaaGreatDoorSxStill
import Derived.Test.YtlbiogokpadaoaaGreatDoorProg
import Derived.KernelRfl
set_option linter.unusedSimpArgs false
set_option linter.unusedVariables false
set_option linter.unnecessarySimpa false
namespace Go.Proofs.YtlbiogokpadaoaaGreatDoor
open Go Go.Sx
set_option maxRecDepth 100000
def T33n0:XC:=.ops [zx 27 (.load [.slc] false (.tmp 3)),zm 28 5,zp 29 28,zd 30 1 27 29,zl 31 30,zf 32 1 7,zn (.store 1 (.tmp 32) (.tmp 31))]
def T33n1:XC:=.blk 3 (.ops [zf 39 2 7,zx 40 (.load [.slc] false (.tmp 39)),zx 41 (.load [.slc] false (.tmp 3)),zm 42 8,zc 43 47 [.tmp 41,.tmp 42],.mk none none (.still 40 (.load [.slc] false (.tmp 39))),zx 44 (.buildS 3 1 1 [.int .i64 0] [(0,.tmp 43)]),zx 45 (.app 3 1 8 (.tmp 40) (.tmp 44)),zf 46 2 7,zn (.store 1 (.tmp 46) (.tmp 45))])
def T33n2:XC:=.blk 2 (.rng (.tmp 37) [38] (.ops [zm 8 38]) (.ref 1))
def T33n3:XC:=.ops [zm 54 4,zx 55 (.load [.int .i64,.int .i64,.slc] true (.tmp 7)),zx 56 (.buildS 35 1 3 [.int .i64 0,.int .i64 0,.slice none 0 0] [(0,.tmp 55)]),zx 57 (.app 35 3 40 (.tmp 54) (.tmp 56)),zm 4 57]
def T33n4:XC:=.seq (.ops [zf 50 2 7,zx 51 (.load [.slc] false (.tmp 50)),zc 52 69 [.tmp 51],zf 53 2 7,zn (.store 1 (.tmp 53) (.tmp 52))]) (.ref 3)
def T33n5:XC:=.seq (.ops [zf 47 2 7,zx 48 (.load [.slc] false (.tmp 47)),zc 49 68 [.tmp 48]]) (.ref 4)
def T33n6:XC:=.seq (.seq (.ops [zm 33 0,zf 34 1 7,zl 35 34,zx 36 (.arith .sub .i64 (.tmp 35) (.const (.int .i64 1))),zc 37 67 [.tmp 33,.tmp 36]]) (.ref 2)) (.ref 5)
def T33n7:XC:=.seq (.seq (.ops [zm 22 5,zp 23 22,zx 24 (.load [.slc] false (.tmp 3)),ze 25 24,zk 26 .lss 23 25]) (.cond (.tmp 26) (.ref 0) .skip)) (.ref 6)
def T33n8:XC:=.seq (.ops [zm 18 6,zm 19 0,ze 20 19,zx 21 (.build [.int .i64 0,.int .i64 0,.slice none 0 0] [(0,1,.tmp 18),(1,1,.tmp 20)]),zx 7 (.alloc 35 [.int .i64 0,.int .i64 0,.slice none 0 0]),zn (.store 3 (.tmp 7) (.tmp 21))]) (.ref 7)
def T33n9:XC:=.seq (.blk 1 (.seq (.ops [zm 15 13,zd 16 1 11 13,zl 17 16,zm 5 15,zm 6 17]) (.ref 8))) (.ops [zp 58 13,zm 13 58])
def T33n10:XC:=.seq (.cond (.tmp 14) .skip (.exit 0)) (.ref 9)
def T33n11:XC:=.seq (.ops [zk 14 .lss 13 12]) (.ref 10)
def T33n12:XC:=.seq (.ops [zm 59 4,zm 2 59]) .ret
def T33n13:XC:=.seq (.seq (.ops [zx 11 (.load [.slc] false (.tmp 3)),ze 12 11,zx 13 (.mov (.const (.int .i64 0)))]) (.blk 0 (.loop (.ref 11)))) (.ref 12)
def T33n14:XC:=.seq (.ops [zx 4 (.mov (.const (.slice none 0 0)))]) (.ref 13)
def T33n15:XC:=.seq (.ops [zm 9 0,zc 10 48 [.tmp 9],zx 3 (.alloc 33 [.slice none 0 0]),zn (.store 1 (.tmp 3) (.tmp 10))]) (.ref 14)
def T33:Nat→XC
 | 0=>T33n0
 | 1=>T33n1
 | 2=>T33n2
 | 3=>T33n3
 | 4=>T33n4
 | 5=>T33n5
 | 6=>T33n6
 | 7=>T33n7
 | 8=>T33n8
 | 9=>T33n9
 | 10=>T33n10
 | 11=>T33n11
 | 12=>T33n12
 | 13=>T33n13
 | 14=>T33n14
 | 15=>T33n15
 | _=>.skip
theorem t33n0:T33 0=T33n0:=rfl
theorem t33n1:T33 1=T33n1:=rfl
theorem t33n2:T33 2=T33n2:=rfl
theorem t33n3:T33 3=T33n3:=rfl
theorem t33n4:T33 4=T33n4:=rfl
theorem t33n5:T33 5=T33n5:=rfl
theorem t33n6:T33 6=T33n6:=rfl
theorem t33n7:T33 7=T33n7:=rfl
theorem t33n8:T33 8=T33n8:=rfl
theorem t33n9:T33 9=T33n9:=rfl
theorem t33n10:T33 10=T33n10:=rfl
theorem t33n11:T33 11=T33n11:=rfl
theorem t33n12:T33 12=T33n12:=rfl
theorem t33n13:T33 13=T33n13:=rfl
theorem t33n14:T33 14=T33n14:=rfl
theorem t33n15:T33 15=T33n15:=rfl
def X33:XC:=.seq (.ops [zx 2 (.mov (.const (.slice none 0 0)))]) (.ref 15)
abbrev K33:List Nat:=[0,2,3,4,5,6,7,8,11,12,13,14,26,37,38]
theorem n33:Tryz.f33.ntmps=60:=by kernel_rfl
theorem r33:resT Tryz.f33.results.toList=some [2]:=by kernel_rfl
theorem x33:cmpF Tryz.prog Tryz.f33=some (expand T33 17 X33):=by kernel_rfl
def T47n0:XC:=.seq (.ops [zm 13 5,zm 4 13]) .ret
def T47n1:XC:=.seq (.ops [zm 8 0,zm 9 1,zc 10 78 [.tmp 8,.tmp 9],zm 7 10,zy 11 7 0,zy 12 7 1,zm 5 11,zm 6 12]) (.ref 0)
def T47:Nat→XC
 | 0=>T47n0
 | 1=>T47n1
 | _=>.skip
theorem t47n0:T47 0=T47n0:=rfl
theorem t47n1:T47 1=T47n1:=rfl
def X47:XC:=.seq (.ops [zx 4 (.mov (.const (.int .i64 0)))]) (.ref 1)
abbrev K47:List Nat:=[0,1,4,5]
theorem n47:Tryz.f47.ntmps=14:=by kernel_rfl
theorem r47:resT Tryz.f47.results.toList=some [4]:=by kernel_rfl
theorem x47:cmpF Tryz.prog Tryz.f47=some (expand T47 3 X47):=by kernel_rfl
def T48n0:XC:=.seq (.ops [zx 2 (.mov (.const (.slice none 0 0)))]) .ret
def T48n1:XC:=.ops [zm 25 3,zm 26 4,zp 27 26,zx 28 (.buildS 3 1 1 [.int .i64 0] [(0,.tmp 27)]),zx 29 (.app 3 1 8 (.tmp 25) (.tmp 28)),zm 3 29]
def T48n2:XC:=.ops [zm 30 3,zm 31 0,zm 32 4,zc 33 67 [.tmp 31,.tmp 32],zc 34 80 [.tmp 30,.tmp 33],zm 3 34]
def T48n3:XC:=.seq (.seq (.ops [zm 20 4,zp 21 20,zm 22 0,ze 23 22,zk 24 .lss 21 23]) (.cond (.tmp 24) (.ref 1) .skip)) (.ref 2)
def T48n4:XC:=.seq (.seq (.ops [zi 17 5,zc 18 79 [.tmp 17],zx 19 (.not (.tmp 18))]) (.cond (.tmp 19) (.exit 1) .skip)) (.ref 3)
def T48n5:XC:=.seq (.blk 1 (.seq (.ops [zm 14 12,zd 15 5 10 12,zi 16 15,zx 5 (.alloc 41 [.int .i64 0,.int .i64 0,.int .i64 0,.int .i64 0,.int .i64 0]),zm 4 14,zn (.store 5 (.tmp 5) (.tmp 16))]) (.ref 4))) (.ops [zp 35 12,zm 12 35])
def T48n6:XC:=.seq (.cond (.tmp 13) .skip (.exit 0)) (.ref 5)
def T48n7:XC:=.seq (.ops [zk 13 .lss 12 11]) (.ref 6)
def T48n8:XC:=.seq (.ops [zm 38 3,zc 39 69 [.tmp 38],zm 2 39]) .ret
def T48n9:XC:=.seq (.ops [zm 36 3,zc 37 68 [.tmp 36]]) (.ref 8)
def T48n10:XC:=.seq (.seq (.ops [zm 10 0,ze 11 10,zx 12 (.mov (.const (.int .i64 0)))]) (.blk 0 (.loop (.ref 7)))) (.ref 9)
def T48n11:XC:=.seq (.ops [zx 9 (.buildS 3 1 1 [.int .i64 0] [(0,.const (.int .i64 0))]),zm 3 9]) (.ref 10)
def T48n12:XC:=.seq (.seq (.ops [zm 6 0,ze 7 6,zx 8 (.cmp .eql .i64 (.tmp 7) (.const (.int .i64 0)))]) (.cond (.tmp 8) (.ref 0) .skip)) (.ref 11)
def T48:Nat→XC
 | 0=>T48n0
 | 1=>T48n1
 | 2=>T48n2
 | 3=>T48n3
 | 4=>T48n4
 | 5=>T48n5
 | 6=>T48n6
 | 7=>T48n7
 | 8=>T48n8
 | 9=>T48n9
 | 10=>T48n10
 | 11=>T48n11
 | 12=>T48n12
 | _=>.skip
theorem t48n0:T48 0=T48n0:=rfl
theorem t48n1:T48 1=T48n1:=rfl
theorem t48n2:T48 2=T48n2:=rfl
theorem t48n3:T48 3=T48n3:=rfl
theorem t48n4:T48 4=T48n4:=rfl
theorem t48n5:T48 5=T48n5:=rfl
theorem t48n6:T48 6=T48n6:=rfl
theorem t48n7:T48 7=T48n7:=rfl
theorem t48n8:T48 8=T48n8:=rfl
theorem t48n9:T48 9=T48n9:=rfl
theorem t48n10:T48 10=T48n10:=rfl
theorem t48n11:T48 11=T48n11:=rfl
theorem t48n12:T48 12=T48n12:=rfl
def X48:XC:=.seq (.ops [zx 2 (.mov (.const (.slice none 0 0)))]) (.ref 12)
abbrev K48:List Nat:=[0,2,3,4,5,8,10,11,12,13,19,24]
theorem n48:Tryz.f48.ntmps=40:=by kernel_rfl
theorem r48:resT Tryz.f48.results.toList=some [2]:=by kernel_rfl
theorem x48:cmpF Tryz.prog Tryz.f48=some (expand T48 14 X48):=by kernel_rfl
def T67n0:XC:=.seq (.ops [zx 5 (.mkfn (.func 98) [] [.tmp 2,.tmp 3]),zm 4 5]) .ret
def T67:Nat→XC
 | 0=>T67n0
 | _=>.skip
theorem t67n0:T67 0=T67n0:=rfl
def X67:XC:=.seq (.ops [zx 2 (.box 22 1 (.tmp 0)),zx 3 (.box 3 1 (.tmp 1)),zx 4 (.mov (.const .nilFunc))]) (.ref 0)
abbrev K67:List Nat:=[0,1,2,3,4]
theorem n67:Tryz.f67.ntmps=6:=by kernel_rfl
theorem r67:resT Tryz.f67.results.toList=some [4]:=by kernel_rfl
theorem x67:cmpF Tryz.prog Tryz.f67=some (expand T67 2 X67):=by kernel_rfl
def T69n0:XC:=.seq (.ops [zm 9 0,zm 2 9]) .ret
def T69n1:XC:=.ops [zm 52 3,zp 53 52,zm 3 53]
def T69n2:XC:=.seq (.ops [zm 45 0,zm 46 3,zm 47 4,zm 48 5,zd 49 1 47 48,zl 50 49,zd 51 1 45 46,zn (.store 1 (.tmp 51) (.tmp 50))]) (.ref 1)
def T69n3:XC:=.ops [zm 33 5,zp 34 33,zm 5 34]
def T69n4:XC:=.seq (.blk 3 (.seq (.ops [zm 35 4,zm 36 5,zd 37 1 35 36,zl 38 37,zm 39 4,zm 40 5,zx 41 (.arith .sub .i64 (.tmp 40) (.const (.int .i64 1))),zd 42 1 39 41,zl 43 42,zk 44 .neq 38 43]) (.cond (.tmp 44) (.ref 2) .skip))) (.ref 3)
def T69n5:XC:=.seq (.seq (.ops [zm 29 5,zm 30 4,ze 31 30,zk 32 .lss 29 31]) (.cond (.tmp 32) .skip (.exit 2))) (.ref 4)
def T69n6:XC:=.seq (.ops [zm 57 0,zm 58 3,zx 59 (.sub 1 (.tmp 57) none (some (.tmp 58))),zm 2 59]) .ret
def T69n7:XC:=.seq (.ops [zm 54 0,zm 55 3,zx 56 (.sub 1 (.tmp 54) (some (.tmp 55)) none),zn (.clr 1 [.int .i64 0] (.tmp 56))]) (.ref 6)
def T69n8:XC:=.seq (.seq (.ops [zx 5 (.mov (.const (.int .i64 1)))]) (.blk 2 (.loop (.ref 5)))) (.ref 7)
def T69n9:XC:=.seq (.ops [zm 26 0,zm 27 3,zx 28 (.sub 1 (.tmp 26) (some (.tmp 27)) none),zm 4 28]) (.ref 8)
def T69n10:XC:=.ops [zm 14 3,zp 15 14,zm 3 15]
def T69n11:XC:=.seq (.blk 1 (.seq (.ops [zm 16 0,zm 17 3,zd 18 1 16 17,zl 19 18,zm 20 0,zm 21 3,zx 22 (.arith .sub .i64 (.tmp 21) (.const (.int .i64 1))),zd 23 1 20 22,zl 24 23,zk 25 .eql 19 24]) (.cond (.tmp 25) (.ref 9) .skip))) (.ref 10)
def T69n12:XC:=.seq (.seq (.ops [zm 10 3,zm 11 0,ze 12 11,zk 13 .lss 10 12]) (.cond (.tmp 13) .skip (.exit 0))) (.ref 11)
def T69n13:XC:=.seq (.ops [zm 60 0,zm 2 60]) .ret
def T69n14:XC:=.seq (.seq (.ops [zx 3 (.mov (.const (.int .i64 1)))]) (.blk 0 (.loop (.ref 12)))) (.ref 13)
def T69n15:XC:=.seq (.seq (.ops [zm 6 0,ze 7 6,zx 8 (.cmp .lss .i64 (.tmp 7) (.const (.int .i64 2)))]) (.cond (.tmp 8) (.ref 0) .skip)) (.ref 14)
def T69:Nat→XC
 | 0=>T69n0
 | 1=>T69n1
 | 2=>T69n2
 | 3=>T69n3
 | 4=>T69n4
 | 5=>T69n5
 | 6=>T69n6
 | 7=>T69n7
 | 8=>T69n8
 | 9=>T69n9
 | 10=>T69n10
 | 11=>T69n11
 | 12=>T69n12
 | 13=>T69n13
 | 14=>T69n14
 | 15=>T69n15
 | _=>.skip
theorem t69n0:T69 0=T69n0:=rfl
theorem t69n1:T69 1=T69n1:=rfl
theorem t69n2:T69 2=T69n2:=rfl
theorem t69n3:T69 3=T69n3:=rfl
theorem t69n4:T69 4=T69n4:=rfl
theorem t69n5:T69 5=T69n5:=rfl
theorem t69n6:T69 6=T69n6:=rfl
theorem t69n7:T69 7=T69n7:=rfl
theorem t69n8:T69 8=T69n8:=rfl
theorem t69n9:T69 9=T69n9:=rfl
theorem t69n10:T69 10=T69n10:=rfl
theorem t69n11:T69 11=T69n11:=rfl
theorem t69n12:T69 12=T69n12:=rfl
theorem t69n13:T69 13=T69n13:=rfl
theorem t69n14:T69 14=T69n14:=rfl
theorem t69n15:T69 15=T69n15:=rfl
def X69:XC:=.seq (.ops [zx 2 (.mov (.const (.slice none 0 0)))]) (.ref 15)
abbrev K69:List Nat:=[0,2,3,4,5,8,13,25,32,44]
theorem n69:Tryz.f69.ntmps=61:=by kernel_rfl
theorem r69:resT Tryz.f69.results.toList=some [2]:=by kernel_rfl
theorem x69:cmpF Tryz.prog Tryz.f69=some (expand T69 17 X69):=by kernel_rfl
def T79n0:XC:=.seq (.ops [zi 3 1,zc 4 21 [.tmp 3],zx 5 (.not (.tmp 4)),zm 6 5,zg 7 6 false (.fld 0 (.tmp 1)),zg 8 6 false (.load [.int .i64] false (.tmp 7)),zg 9 6 false (.cmp .eql .i64 (.tmp 8) (.const (.int .i64 1))),zx 10 (.pick (.tmp 6) (.const (.bool true)) (.tmp 9)),zm 11 10,zg 12 11 false (.fld 0 (.tmp 1)),zg 13 11 false (.load [.int .i64] false (.tmp 12)),.mk (some 14) (some (11,false)) (.call 99 [.tmp 13]),zx 15 (.pick (.tmp 11) (.const (.bool true)) (.tmp 14)),zm 2 15]) .ret
def T79:Nat→XC
 | 0=>T79n0
 | _=>.skip
theorem t79n0:T79 0=T79n0:=rfl
def X79:XC:=.seq (.ops [zx 1 (.box 41 5 (.tmp 0)),zx 2 (.mov (.const (.bool false)))]) (.ref 0)
abbrev K79:List Nat:=[0,1,2]
theorem n79:Tryz.f79.ntmps=16:=by kernel_rfl
theorem r79:resT Tryz.f79.results.toList=some [2]:=by kernel_rfl
theorem x79:cmpF Tryz.prog Tryz.f79=some (expand T79 2 X79):=by kernel_rfl
def T80n0:XC:=.blk 1 (.ops [zx 8 (.load [.slc] false (.tmp 2)),zm 9 5,zx 10 (.buildS 3 1 1 [.int .i64 0] [(0,.tmp 9)]),zx 11 (.app 3 1 8 (.tmp 8) (.tmp 10)),zn (.store 1 (.tmp 2) (.tmp 11))])
def T80n1:XC:=.blk 0 (.rng (.tmp 6) [7] (.ops [zm 5 7]) (.ref 0))
def T80n2:XC:=.seq (.ops [zx 12 (.load [.slc] false (.tmp 2)),zm 4 12]) .ret
def T80n3:XC:=.seq (.seq (.ops [zm 6 1]) (.ref 1)) (.ref 2)
def T80:Nat→XC
 | 0=>T80n0
 | 1=>T80n1
 | 2=>T80n2
 | 3=>T80n3
 | _=>.skip
theorem t80n0:T80 0=T80n0:=rfl
theorem t80n1:T80 1=T80n1:=rfl
theorem t80n2:T80 2=T80n2:=rfl
theorem t80n3:T80 3=T80n3:=rfl
def X80:XC:=.seq (.ops [zx 2 (.box 33 1 (.tmp 0)),zx 4 (.mov (.const (.slice none 0 0)))]) (.ref 3)
abbrev K80:List Nat:=[0,1,2,4,5,6,7]
theorem n80:Tryz.f80.ntmps=13:=by kernel_rfl
theorem r80:resT Tryz.f80.results.toList=some [4]:=by kernel_rfl
theorem x80:cmpF Tryz.prog Tryz.f80=some (expand T80 5 X80):=by kernel_rfl
def T98n0:XC:=.ops [zm 49 0,zl 50 2,zp 51 50,.mk (some 52) none (.callv (.tmp 49) [.tmp 51])]
def T98n1:XC:=.seq (.ops [zf 39 0 4,zl 40 39,zx 41 (.cmp .neq .i64 (.tmp 40) (.const (.int .i64 13))),zm 42 41,zg 43 42 true (.load [.int .i64] false (.tmp 2)),zg 44 42 true (.arith .add .i64 (.tmp 43) (.const (.int .i64 1))),zg 45 42 true (.load [.slc] false (.tmp 1)),zg 46 42 true (.lenS (.tmp 45)),zg 47 42 true (.cmp .lss .i64 (.tmp 44) (.tmp 46)),zx 48 (.pick (.tmp 42) (.tmp 47) (.const (.bool false)))]) (.cond (.tmp 48) (.ref 0) .skip)
def T98n2:XC:=.seq (.seq (.ops [zf 17 0 4,zl 18 17,zc 19 99 [.tmp 18],zm 20 19,zg 21 20 true (.fld 4 (.tmp 4)),zg 22 20 true (.load [.int .i64] false (.tmp 21)),zg 23 20 true (.cmp .geq .i64 (.tmp 22) (.const (.int .i64 0))),zx 24 (.pick (.tmp 20) (.tmp 23) (.const (.bool false))),zm 25 24,zg 26 25 true (.fld 4 (.tmp 4)),zg 27 25 true (.load [.int .i64] false (.tmp 26)),zg 28 25 true (.load [.slc] false (.tmp 1)),zg 29 25 true (.lenS (.tmp 28)),zg 30 25 true (.cmp .lss .i64 (.tmp 27) (.tmp 29)),zx 31 (.pick (.tmp 25) (.tmp 30) (.const (.bool false))),zm 32 31,zh 33 32 true 0,zg 34 32 true (.fld 4 (.tmp 4)),zg 35 32 true (.load [.int .i64] false (.tmp 34)),.mk (some 36) (some (32,true)) (.callv (.tmp 33) [.tmp 35]),zg 37 32 true (.not (.tmp 36)),zx 38 (.pick (.tmp 32) (.tmp 37) (.const (.bool false)))]) (.cond (.tmp 38) .ret .skip)) (.ref 1)
def T98n3:XC:=.seq (.seq (.ops [zi 9 4,zc 10 21 [.tmp 9],zx 11 (.not (.tmp 10)),zm 12 11,zg 13 12 false (.fld 0 (.tmp 4)),zg 14 12 false (.load [.int .i64] false (.tmp 13)),zg 15 12 false (.cmp .eql .i64 (.tmp 14) (.const (.int .i64 1))),zx 16 (.pick (.tmp 12) (.const (.bool true)) (.tmp 15))]) (.cond (.tmp 16) .ret .skip)) (.ref 2)
def T98:Nat→XC
 | 0=>T98n0
 | 1=>T98n1
 | 2=>T98n2
 | 3=>T98n3
 | _=>.skip
theorem t98n0:T98 0=T98n0:=rfl
theorem t98n1:T98 1=T98n1:=rfl
theorem t98n2:T98 2=T98n2:=rfl
theorem t98n3:T98 3=T98n3:=rfl
def X98:XC:=.seq (.ops [zx 5 (.load [.slc] false (.tmp 1)),zl 6 2,zd 7 5 5 6,zi 8 7,zx 4 (.alloc 41 [.int .i64 0,.int .i64 0,.int .i64 0,.int .i64 0,.int .i64 0]),zn (.store 5 (.tmp 4) (.tmp 8))]) (.ref 3)
abbrev K98:List Nat:=[0,1,2,4,16,38,48]
theorem n98:Tryz.f98.ntmps=53:=by kernel_rfl
theorem r98:resT Tryz.f98.results.toList=some []:=by kernel_rfl
theorem x98:cmpF Tryz.prog Tryz.f98=some (expand T98 5 X98):=by kernel_rfl
def T99n0:XC:=.seq (.ops [zm 3 0,zx 4 (.cmp .geq .i64 (.tmp 3) (.const (.int .i64 13))),zm 5 4,zh 6 5 true 0,zg 7 5 true (.cmp .leq .i64 (.tmp 6) (.const (.int .i64 16))),zx 8 (.pick (.tmp 5) (.tmp 7) (.const (.bool false))),zm 2 8]) .ret
def T99:Nat→XC
 | 0=>T99n0
 | _=>.skip
theorem t99n0:T99 0=T99n0:=rfl
def X99:XC:=.seq (.ops [zx 2 (.mov (.const (.bool false)))]) (.ref 0)
abbrev K99:List Nat:=[0,2]
theorem n99:Tryz.f99.ntmps=9:=by kernel_rfl
theorem r99:resT Tryz.f99.results.toList=some [2]:=by kernel_rfl
theorem x99:cmpF Tryz.prog Tryz.f99=some (expand T99 2 X99):=by kernel_rfl
theorem n23:Tryz.f23.ntmps=25:=by kernel_rfl
def T17n0:XC:=.seq (.ops [zx 2 (.mov (.const (.slice none 0 0))),zx 3 (.mov (.const (.int .i64 2)))]) .ret
def T17n1:XC:=.seq (.ops [zm 7 0,zc 8 33 [.tmp 7],zm 2 8,zx 3 (.mov (.const (.int .i64 0)))]) .ret
def T17n2:XC:=.seq (.seq (.ops [zm 4 0,ze 5 4,zx 6 (.cmp .gtr .i64 (.tmp 5) (.const (.int .i64 1024)))]) (.cond (.tmp 6) (.ref 0) .skip)) (.ref 1)
def T17:Nat→XC
 | 0=>T17n0
 | 1=>T17n1
 | 2=>T17n2
 | _=>.skip
theorem t17n0:T17 0=T17n0:=rfl
theorem t17n1:T17 1=T17n1:=rfl
theorem t17n2:T17 2=T17n2:=rfl
def X17:XC:=.seq (.ops [zx 2 (.mov (.const (.slice none 0 0))),zx 3 (.mov (.const (.int .i64 0)))]) (.ref 2)
abbrev K17:List Nat:=[0,2,3,6]
theorem n17:Tryz.f17.ntmps=9:=by kernel_rfl
theorem r17:resT Tryz.f17.results.toList=some [2,3]:=by kernel_rfl
theorem x17:cmpF Tryz.prog Tryz.f17=some (expand T17 4 X17):=by kernel_rfl
attribute [go_sem] t33n0 t33n1 t33n2 t33n3 t33n4 t33n5 t33n6 t33n7 t33n8 t33n9 t33n10 t33n11 t33n12 t33n13 t33n14 t33n15 T33n0 T33n1 T33n2 T33n3 T33n4 T33n5 T33n6 T33n7 T33n8 T33n9 T33n10 T33n11 T33n12 T33n13 T33n14 T33n15 X33
attribute [go_sem] t47n0 t47n1 T47n0 T47n1 X47
attribute [go_sem] t48n0 t48n1 t48n2 t48n3 t48n4 t48n5 t48n6 t48n7 t48n8 t48n9 t48n10 t48n11 t48n12 T48n0 T48n1 T48n2 T48n3 T48n4 T48n5 T48n6 T48n7 T48n8 T48n9 T48n10 T48n11 T48n12 X48
attribute [go_sem] t67n0 T67n0 X67
attribute [go_sem] t69n0 t69n1 t69n2 t69n3 t69n4 t69n5 t69n6 t69n7 t69n8 t69n9 t69n10 t69n11 t69n12 t69n13 t69n14 t69n15 T69n0 T69n1 T69n2 T69n3 T69n4 T69n5 T69n6 T69n7 T69n8 T69n9 T69n10 T69n11 T69n12 T69n13 T69n14 T69n15 X69
attribute [go_sem] t79n0 T79n0 X79
attribute [go_sem] t80n0 t80n1 t80n2 t80n3 T80n0 T80n1 T80n2 T80n3 X80
attribute [go_sem] t98n0 t98n1 t98n2 t98n3 T98n0 T98n1 T98n2 T98n3 X98
attribute [go_sem] t99n0 T99n0 X99
attribute [go_sem] t17n0 t17n1 t17n2 T17n0 T17n1 T17n2 X17
end Go.Proofs.YtlbiogokpadaoaaGreatDoor
