/- Printed by program: the small code of functions, and that it is theirs. -/
import Derived.Test.YtlbiogokpadaoaaGreatDoorSxStill
import Derived.Test.YtlbiogokpadaoaaGreatDoorProg
import Derived.KernelRfl
set_option linter.unusedSimpArgs false
set_option linter.unusedVariables false
set_option linter.unnecessarySimpa false
namespace Go.Proofs.YtlbiogokpadaoaaGreatDoor
open Go Go.Sx
set_option maxRecDepth 100000
def T22n0:XC:=.seq (.ops [zx 2 (.mov (.const (.slice none 0 0))),zx 3 (.mov (.const (.int .i64 2)))]) .ret
def T22n1:XC:=.ops [zm 61 4,zm 62 5,zc 63 41 [.tmp 61,.const (.int .i64 7),.tmp 62]]
def T22n2:XC:=.seq (.ops [zm 49 11,zm 50 49,zg 51 50 true (.load [.int .i64,.int .i64,.int .i64,.int .i64,.int .i64] true (.tmp 6)),.mk (some 52) (some (50,true)) (.call 21 [.tmp 51]),zx 53 (.pick (.tmp 50) (.tmp 52) (.const (.bool false))),zm 54 53,zg 55 54 true (.load [.int .i64,.int .i64,.int .i64,.int .i64,.int .i64] true (.tmp 6)),.mk (some 56) (some (54,true)) (.call 40 [.tmp 55]),zh 57 54 true 10,zg 58 54 true (.bits .andNot .u8 (.tmp 56) (.tmp 57)),zg 59 54 true (.cmp .neq .u8 (.tmp 58) (.const (.int .u8 0))),zx 60 (.pick (.tmp 54) (.tmp 59) (.const (.bool false)))]) (.cond (.tmp 60) (.ref 1) .skip)
def T22n3:XC:=.seq (.ops [zm 45 7,zm 46 45,zh 47 46 false 11,zx 48 (.pick (.tmp 46) (.const (.bool true)) (.tmp 47)),zm 7 48]) (.ref 2)
def T22n4:XC:=.seq (.ops [zm 35 4,zx 36 (.nilc (.tmp 35)),zf 37 1 36,zx 38 (.load [.map] false (.tmp 37)),zm 39 5,zm 40 9,zx 41 (.build [.int .i64 0,.bool false] [(0,1,.tmp 39),(1,1,.tmp 40)]),zx 42 (.lkupA [.int .i64,.bool] (.int .u8 0) true (.tmp 38) (.tmp 41)),zm 34 42,zy 43 34 0,zy 44 34 1,zm 10 43,zm 11 44]) (.ref 3)
def T22n5:XC:=.seq (.blk 3 (.seq (.ops [zd 32 1 28 30,zx 33 (.load [.bool] false (.tmp 32)),zm 9 33]) (.ref 4))) (.ops [zp 64 30,zm 30 64])
def T22n6:XC:=.seq (.cond (.tmp 31) .skip (.exit 2)) (.ref 5)
def T22n7:XC:=.seq (.ops [zk 31 .lss 30 29]) (.ref 6)
def T22n8:XC:=.ops [zm 67 4,zm 68 5,zc 69 41 [.tmp 67,.const (.int .i64 8),.tmp 68]]
def T22n9:XC:=.seq (.ops [zm 65 7,zx 66 (.not (.tmp 65))]) (.cond (.tmp 66) (.ref 8) .skip)
def T22n10:XC:=.seq (.seq (.ops [zx 28 (.buildS 4 2 1 [.bool false] [(0,.const (.bool false)),(1,.const (.bool true))]),ze 29 28,zx 30 (.mov (.const (.int .i64 0)))]) (.blk 2 (.loop (.ref 7)))) (.ref 9)
def T22n11:XC:=.seq (.ops [zx 7 (.mov (.const (.bool false)))]) (.ref 10)
def T22n12:XC:=.seq (.blk 1 (.seq (.ops [zm 25 23,zd 26 5 21 23,zi 27 26,zx 6 (.alloc 41 [.int .i64 0,.int .i64 0,.int .i64 0,.int .i64 0,.int .i64 0]),zm 5 25,zn (.store 5 (.tmp 6) (.tmp 27))]) (.ref 11))) (.ops [zp 70 23,zm 23 70])
def T22n13:XC:=.seq (.cond (.tmp 24) .skip (.exit 0)) (.ref 12)
def T22n14:XC:=.seq (.ops [zk 24 .lss 23 22]) (.ref 13)
def T22n15:XC:=.seq (.ops [zm 76 4,zx 77 (.nilc (.tmp 76)),zf 78 2 77,zx 79 (.load [.slc] false (.tmp 78)),zc 80 46 [.tmp 79],zm 2 80,zx 3 (.mov (.const (.int .i64 0)))]) .ret
def T22n16:XC:=.seq (.ops [zm 71 4,zx 72 (.nilc (.tmp 71)),zf 73 2 72,zx 74 (.load [.slc] false (.tmp 73)),zc 75 42 [.tmp 74,.func 43]]) (.ref 15)
def T22n17:XC:=.seq (.seq (.ops [zm 21 0,ze 22 21,zx 23 (.mov (.const (.int .i64 0)))]) (.blk 0 (.loop (.ref 14)))) (.ref 16)
def T22n18:XC:=.seq (.ops [zm 19 4,zc 20 39 [.tmp 19]]) (.ref 17)
def T22n19:XC:=.seq (.ops [zm 15 0,.mk (some 16) none (.k .mkmap),zx 17 (.build [.slice none 0 0,.map none,.slice none 0 0] [(0,1,.tmp 15),(1,1,.tmp 16)]),zx 18 (.box 76 3 (.tmp 17)),zm 4 18]) (.ref 18)
def T22n20:XC:=.seq (.seq (.ops [zm 12 0,ze 13 12,zx 14 (.cmp .gtr .i64 (.tmp 13) (.const (.int .i64 1024)))]) (.cond (.tmp 14) (.ref 0) .skip)) (.ref 19)
def T22:Nat→XC
 | 0=>T22n0
 | 1=>T22n1
 | 2=>T22n2
 | 3=>T22n3
 | 4=>T22n4
 | 5=>T22n5
 | 6=>T22n6
 | 7=>T22n7
 | 8=>T22n8
 | 9=>T22n9
 | 10=>T22n10
 | 11=>T22n11
 | 12=>T22n12
 | 13=>T22n13
 | 14=>T22n14
 | 15=>T22n15
 | 16=>T22n16
 | 17=>T22n17
 | 18=>T22n18
 | 19=>T22n19
 | 20=>T22n20
 | _=>.skip
theorem t22n0:T22 0=T22n0:=rfl
theorem t22n1:T22 1=T22n1:=rfl
theorem t22n2:T22 2=T22n2:=rfl
theorem t22n3:T22 3=T22n3:=rfl
theorem t22n4:T22 4=T22n4:=rfl
theorem t22n5:T22 5=T22n5:=rfl
theorem t22n6:T22 6=T22n6:=rfl
theorem t22n7:T22 7=T22n7:=rfl
theorem t22n8:T22 8=T22n8:=rfl
theorem t22n9:T22 9=T22n9:=rfl
theorem t22n10:T22 10=T22n10:=rfl
theorem t22n11:T22 11=T22n11:=rfl
theorem t22n12:T22 12=T22n12:=rfl
theorem t22n13:T22 13=T22n13:=rfl
theorem t22n14:T22 14=T22n14:=rfl
theorem t22n15:T22 15=T22n15:=rfl
theorem t22n16:T22 16=T22n16:=rfl
theorem t22n17:T22 17=T22n17:=rfl
theorem t22n18:T22 18=T22n18:=rfl
theorem t22n19:T22 19=T22n19:=rfl
theorem t22n20:T22 20=T22n20:=rfl
def X22:XC:=.seq (.ops [zx 2 (.mov (.const (.slice none 0 0))),zx 3 (.mov (.const (.int .i64 0)))]) (.ref 20)
abbrev K22:List Nat:=[0,2,3,4,5,6,7,9,10,11,14,21,22,23,24,28,29,30,31,60,66]
theorem n22:Tryz.f22.ntmps=81:=by kernel_rfl
theorem r22:resT Tryz.f22.results.toList=some [2,3]:=by kernel_rfl
theorem x22:cmpF Tryz.prog Tryz.f22=some (expand T22 22 X22):=by kernel_rfl
def T39n0:XC:=.seq (.ops [zx 43 (.load [.ptr] false (.tmp 1)),zf 44 0 3,zl 45 44,zc 46 41 [.tmp 43,.const (.int .i64 1),.tmp 45]]) (.exit 1)
def T39n1:XC:=.ops [zx 72 (.load [.ptr] false (.tmp 1)),zf 73 0 3,zl 74 73,zc 75 41 [.tmp 72,.const (.int .i64 5),.tmp 74]]
def T39n2:XC:=.cond (.tmp 86) (.ops [zx 7 (.mov (.const (.int .u8 255)))]) .skip
def T39n3:XC:=.ops [zx 104 (.load [.slc] false (.tmp 2)),zx 105 (.load [.int .i64,.bool] true (.tmp 6)),zx 106 (.buildS 79 1 2 [.int .i64 0,.bool false] [(0,.tmp 105)]),zx 107 (.app 79 2 16 (.tmp 104) (.tmp 106)),zn (.store 1 (.tmp 2) (.tmp 107))]
def T39n4:XC:=.seq (.ops [zx 96 (.load [.ptr] false (.tmp 1)),zx 97 (.nilc (.tmp 96)),zf 98 1 97,zx 99 (.load [.map] false (.tmp 98)),zx 100 (.load [.int .i64,.bool] true (.tmp 6)),zm 101 7,zx 102 (.load [.int .u8] false (.tmp 5)),zx 103 (.bits .and .u8 (.tmp 101) (.tmp 102)),zn (.mupdA [.int .i64,.bool] (.tmp 99) (.tmp 100) (.tmp 103))]) (.ref 3)
def T39n5:XC:=.seq (.ops [zm 87 8,zx 88 (.not (.tmp 87)),zm 89 88,zh 90 89 false 7,zg 91 89 false (.load [.int .u8] false (.tmp 5)),zg 92 89 false (.bits .and .u8 (.tmp 90) (.tmp 91)),zh 93 89 false 7,zg 94 89 false (.cmp .neq .u8 (.tmp 92) (.tmp 93)),zx 95 (.pick (.tmp 89) (.const (.bool true)) (.tmp 94))]) (.cond (.tmp 95) (.ref 4) .skip)
def T39n6:XC:=.seq (.seq (.ops [zm 85 8,zx 86 (.not (.tmp 85))]) (.ref 2)) (.ref 5)
def T39n7:XC:=.seq (.ops [zx 77 (.load [.ptr] false (.tmp 1)),zx 78 (.nilc (.tmp 77)),zf 79 1 78,zx 80 (.load [.map] false (.tmp 79)),zx 81 (.load [.int .i64,.bool] true (.tmp 6)),zx 82 (.lkupA [.int .i64,.bool] (.int .u8 0) true (.tmp 80) (.tmp 81)),zm 76 82,zy 83 76 0,zy 84 76 1,zm 7 83,zm 8 84]) (.ref 6)
def T39n8:XC:=.blk 3 (.seq (.seq (.ops [zf 60 1 6,zx 61 (.load [.bool] false (.tmp 60)),zm 62 61,zg 63 62 true (.fld 0 (.tmp 6)),zg 64 62 true (.load [.int .i64] false (.tmp 63)),zg 65 62 true (.load [.ptr] false (.tmp 1)),zg 66 62 true (.nilc (.tmp 65)),zg 67 62 true (.fld 0 (.tmp 66)),zg 68 62 true (.load [.slc] false (.tmp 67)),zg 69 62 true (.lenS (.tmp 68)),zg 70 62 true (.cmp .geq .i64 (.tmp 64) (.tmp 69)),zx 71 (.pick (.tmp 62) (.tmp 70) (.const (.bool false)))]) (.cond (.tmp 71) (.ref 1) .skip)) (.ref 7))
def T39n9:XC:=.blk 2 (.rng (.tmp 58) [59] (.ops [zx 6 (.alloc 79 [.int .i64 0,.bool false]),zn (.store 2 (.tmp 6) (.tmp 59))]) (.ref 8))
def T39n10:XC:=.seq (.ops [zx 56 (.load [.ptr] false (.tmp 1)),zx 57 (.load [.int .i64,.bool] true (.tmp 3)),zc 58 73 [.tmp 56,.tmp 57]]) (.ref 9)
def T39n11:XC:=.seq (.seq (.ops [zi 40 4,zc 41 21 [.tmp 40],zx 42 (.not (.tmp 41))]) (.cond (.tmp 42) (.ref 0) .skip)) (.seq (.alt 11 (.seq (zx 47 (.load [.ptr] false (.tmp 1))) 0 (.seq (zx 48 (.nilc (.tmp 47))) 1 (.seq (zf 49 1 48) 2 (.seq (zx 50 (.load [.map] false (.tmp 49))) 3 (.seq (zx 51 (.load [.int .i64,.bool] true (.tmp 3))) 4 (.seq (zx 52 (.lkupA [.int .i64,.bool] (.int .u8 0) false (.tmp 50) (.tmp 51))) 5 (.seq (zi 53 4) 6 (.alt (.seq (zc 54 72 [.tmp 53]) 7 (.seq (.mk none none (.still 47 (.load [.ptr] false (.tmp 1)))) 0 (.seq (.mk none none (.still 50 (.load [.map] false (.tmp 49)))) 3 (.seq (.mk none none (.still 51 (.load [.int .i64,.bool] true (.tmp 3)))) 4 (.seq (.mk none none (.still 52 (.lkupA [.int .i64,.bool] (.int .u8 0) false (.tmp 50) (.tmp 51)))) 5 (.seq (zx 55 (.bits .or .u8 (.tmp 52) (.tmp 54))) 8 (.seq (zx 5 (.alloc 5 [.int .u8 0])) 9 (.seq (zn (.store 1 (.tmp 5) (.tmp 55))) 10 .done)))))))) (.seq (zx 5 (.alloc 5 [.int .u8 0])) 9 (.seq (zc 54 72 [.tmp 53]) 7 (.seq (.mk none none (.still 47 (.load [.ptr] false (.tmp 1)))) 0 (.seq (.mk none none (.still 50 (.load [.map] false (.tmp 49)))) 3 (.seq (.mk none none (.still 51 (.load [.int .i64,.bool] true (.tmp 3)))) 4 (.seq (.mk none none (.still 52 (.lkupA [.int .i64,.bool] (.int .u8 0) false (.tmp 50) (.tmp 51)))) 5 (.seq (zx 55 (.bits .or .u8 (.tmp 52) (.tmp 54))) 8 (.seq (zn (.store 1 (.tmp 5) (.tmp 55))) 10 .done))))))))))))))))) (.ref 10))
def T39n12:XC:=.seq (.ops [zx 32 (.load [.ptr] false (.tmp 1)),zx 33 (.nilc (.tmp 32)),zf 34 0 33,zx 35 (.load [.slc] false (.tmp 34)),zf 36 0 3,zl 37 36,zd 38 5 35 37,zi 39 38,zx 4 (.alloc 41 [.int .i64 0,.int .i64 0,.int .i64 0,.int .i64 0,.int .i64 0]),zn (.store 5 (.tmp 4) (.tmp 39))]) (.ref 11)
def T39n13:XC:=.seq (.seq (.ops [zf 24 0 3,zl 25 24,zx 26 (.load [.ptr] false (.tmp 1)),zx 27 (.nilc (.tmp 26)),zf 28 0 27,zx 29 (.load [.slc] false (.tmp 28)),ze 30 29,zk 31 .geq 25 30]) (.cond (.tmp 31) (.exit 1) .skip)) (.ref 12)
def T39n14:XC:=.seq (.ops [zx 22 (.load [.slc] false (.tmp 2)),zx 23 (.sub 2 (.tmp 22) (some (.const (.int .i64 1))) none),zn (.store 1 (.tmp 2) (.tmp 23))]) (.ref 13)
def T39n15:XC:=.blk 1 (.seq (.ops [zx 19 (.load [.slc] false (.tmp 2)),zx 20 (.idx 2 (.tmp 19) (.const (.int .i64 0))),zx 21 (.load [.int .i64,.bool] true (.tmp 20)),zx 3 (.alloc 79 [.int .i64 0,.bool false]),zn (.store 2 (.tmp 3) (.tmp 21))]) (.ref 14))
def T39n16:XC:=.seq (.seq (.ops [zx 16 (.load [.slc] false (.tmp 2)),ze 17 16,zx 18 (.cmp .gtr .i64 (.tmp 17) (.const (.int .i64 0)))]) (.cond (.tmp 18) .skip (.exit 0))) (.ref 15)
def T39n17:XC:=.seq (.lab) (.blk 0 (.loop (.ref 16)))
def T39n18:XC:=.seq (.ops [zx 11 (.load [.ptr] false (.tmp 1)),zx 12 (.nilc (.tmp 11)),zf 13 1 12,zx 14 (.load [.map] false (.tmp 13)),zx 15 (.build [.int .i64 0,.bool false] []),zn (.mupdA [.int .i64,.bool] (.tmp 14) (.tmp 15) (.const (.int .u8 0)))]) (.ref 17)
def T39n19:XC:=.scp (.seq (.ops [zx 9 (.build [.int .i64 0,.bool false] []),zx 10 (.buildS 79 1 2 [.int .i64 0,.bool false] [(0,.tmp 9)]),zx 2 (.alloc 109 [.slice none 0 0]),zn (.store 1 (.tmp 2) (.tmp 10))]) (.ref 18))
def T39:Nat→XC
 | 0=>T39n0
 | 1=>T39n1
 | 2=>T39n2
 | 3=>T39n3
 | 4=>T39n4
 | 5=>T39n5
 | 6=>T39n6
 | 7=>T39n7
 | 8=>T39n8
 | 9=>T39n9
 | 10=>T39n10
 | 11=>T39n11
 | 12=>T39n12
 | 13=>T39n13
 | 14=>T39n14
 | 15=>T39n15
 | 16=>T39n16
 | 17=>T39n17
 | 18=>T39n18
 | 19=>T39n19
 | _=>.skip
theorem t39n0:T39 0=T39n0:=rfl
theorem t39n1:T39 1=T39n1:=rfl
theorem t39n2:T39 2=T39n2:=rfl
theorem t39n3:T39 3=T39n3:=rfl
theorem t39n4:T39 4=T39n4:=rfl
theorem t39n5:T39 5=T39n5:=rfl
theorem t39n6:T39 6=T39n6:=rfl
theorem t39n7:T39 7=T39n7:=rfl
theorem t39n8:T39 8=T39n8:=rfl
theorem t39n9:T39 9=T39n9:=rfl
theorem t39n10:T39 10=T39n10:=rfl
theorem t39n11:T39 11=T39n11:=rfl
theorem t39n12:T39 12=T39n12:=rfl
theorem t39n13:T39 13=T39n13:=rfl
theorem t39n14:T39 14=T39n14:=rfl
theorem t39n15:T39 15=T39n15:=rfl
theorem t39n16:T39 16=T39n16:=rfl
theorem t39n17:T39 17=T39n17:=rfl
theorem t39n18:T39 18=T39n18:=rfl
theorem t39n19:T39 19=T39n19:=rfl
def X39:XC:=.seq (.ops [zx 1 (.box 73 1 (.tmp 0))]) (.ref 19)
abbrev K39:List Nat:=[0,1,2,3,4,5,6,7,8,18,31,42,47,48,49,50,51,52,53,54,55,58,59,71,86,95]
theorem n39:Tryz.f39.ntmps=108:=by kernel_rfl
theorem r39:resT Tryz.f39.results.toList=some []:=by kernel_rfl
theorem x39:cmpF Tryz.prog Tryz.f39=some (expand T39 21 X39):=by kernel_rfl
def T40n0:XC:=.seq (.ops [zf 12 2 1,zl 13 12,zx 14 (.buildS 3 1 1 [.int .i64 0] [(0,.tmp 13)]),zc 15 74 [.tmp 14],zm 2 15]) .ret
def T40n1:XC:=.seq (.ops [zf 25 2 1,zl 26 25,zf 27 3 1,zl 28 27,zx 29 (.buildS 3 2 1 [.int .i64 0] [(0,.tmp 26),(1,.tmp 28)]),zc 30 74 [.tmp 29],zm 2 30]) .ret
def T40n2:XC:=.seq (.ops [zf 45 1 1,zl 46 45,zf 47 2 1,zl 48 47,zx 49 (.buildS 3 2 1 [.int .i64 0] [(0,.tmp 46),(1,.tmp 48)]),zc 50 74 [.tmp 49],zm 2 50]) .ret
def T40n3:XC:=.seq (.ops [zf 32 0 1,zl 33 32,zx 34 (.cmp .eql .i64 (.tmp 33) (.const (.int .i64 12))),zm 35 34,zg 36 35 false (.fld 0 (.tmp 1)),zg 37 35 false (.load [.int .i64] false (.tmp 36)),zg 38 35 false (.cmp .geq .i64 (.tmp 37) (.const (.int .i64 14))),zh 39 35 false 38,zg 40 39 true (.fld 0 (.tmp 1)),zg 41 39 true (.load [.int .i64] false (.tmp 40)),zg 42 39 true (.cmp .leq .i64 (.tmp 41) (.const (.int .i64 16))),zg 43 35 false (.pick (.tmp 39) (.tmp 42) (.const (.bool false))),zx 44 (.pick (.tmp 35) (.const (.bool true)) (.tmp 43)),zm 31 44]) (.cond (.tmp 31) (.ref 2) .skip)
def T40n4:XC:=.seq (.ops [zf 17 0 1,zl 18 17,zx 19 (.cmp .geq .i64 (.tmp 18) (.const (.int .i64 4))),zm 20 19,zg 21 20 true (.fld 0 (.tmp 1)),zg 22 20 true (.load [.int .i64] false (.tmp 21)),zg 23 20 true (.cmp .leq .i64 (.tmp 22) (.const (.int .i64 10))),zx 24 (.pick (.tmp 20) (.tmp 23) (.const (.bool false))),zm 16 24]) (.cond (.tmp 16) (.ref 1) (.ref 3))
def T40n5:XC:=.seq (.ops [zx 2 (.mov (.const (.int .u8 0)))]) .ret
def T40n6:XC:=.seq (.blk 0 (.seq (.ops [zf 4 0 1,zl 5 4,zx 6 (.cmp .eql .i64 (.tmp 5) (.const (.int .i64 3))),zm 7 6,zg 8 7 false (.fld 0 (.tmp 1)),zg 9 7 false (.load [.int .i64] false (.tmp 8)),zg 10 7 false (.cmp .eql .i64 (.tmp 9) (.const (.int .i64 11))),zx 11 (.pick (.tmp 7) (.const (.bool true)) (.tmp 10)),zm 3 11]) (.cond (.tmp 3) (.ref 0) (.ref 4)))) (.ref 5)
def T40:Nat→XC
 | 0=>T40n0
 | 1=>T40n1
 | 2=>T40n2
 | 3=>T40n3
 | 4=>T40n4
 | 5=>T40n5
 | 6=>T40n6
 | _=>.skip
theorem t40n0:T40 0=T40n0:=rfl
theorem t40n1:T40 1=T40n1:=rfl
theorem t40n2:T40 2=T40n2:=rfl
theorem t40n3:T40 3=T40n3:=rfl
theorem t40n4:T40 4=T40n4:=rfl
theorem t40n5:T40 5=T40n5:=rfl
theorem t40n6:T40 6=T40n6:=rfl
def X40:XC:=.seq (.ops [zx 1 (.box 41 5 (.tmp 0)),zx 2 (.mov (.const (.int .u8 0)))]) (.ref 6)
abbrev K40:List Nat:=[0,1,2,3,16,31]
theorem n40:Tryz.f40.ntmps=51:=by kernel_rfl
theorem r40:resT Tryz.f40.results.toList=some [2]:=by kernel_rfl
theorem x40:cmpF Tryz.prog Tryz.f40=some (expand T40 8 X40):=by kernel_rfl
def T41:Nat→XC
 | _=>.skip
def X41:XC:=.ops [zm 6 0,zm 7 0,zx 8 (.nilc (.tmp 7)),zf 9 2 8,zx 10 (.load [.slc] false (.tmp 9)),zm 11 1,zm 12 2,zx 13 (.build [.int .i64 0,.int .i64 0] [(0,1,.tmp 11),(1,1,.tmp 12)]),zx 14 (.buildS 46 1 2 [.int .i64 0,.int .i64 0] [(0,.tmp 13)]),zx 15 (.app 46 2 16 (.tmp 10) (.tmp 14)),zx 16 (.nilc (.tmp 6)),zf 17 2 16,zn (.store 1 (.tmp 17) (.tmp 15))]
abbrev K41:List Nat:=[0,1,2]
theorem n41:Tryz.f41.ntmps=18:=by kernel_rfl
theorem r41:resT Tryz.f41.results.toList=some []:=by kernel_rfl
theorem x41:cmpF Tryz.prog Tryz.f41=some (expand T41 1 X41):=by kernel_rfl
def T46n0:XC:=.seq (.ops [zm 9 0,zm 2 9]) .ret
def T46n1:XC:=.ops [zm 52 3,zp 53 52,zm 3 53]
def T46n2:XC:=.seq (.ops [zm 45 0,zm 46 3,zm 47 4,zm 48 5,zd 49 2 47 48,zx 50 (.load [.int .i64,.int .i64] true (.tmp 49)),zd 51 2 45 46,zn (.store 2 (.tmp 51) (.tmp 50))]) (.ref 1)
def T46n3:XC:=.ops [zm 33 5,zp 34 33,zm 5 34]
def T46n4:XC:=.seq (.blk 3 (.seq (.ops [zm 35 4,zm 36 5,zd 37 2 35 36,zx 38 (.load [.int .i64,.int .i64] true (.tmp 37)),zm 39 4,zm 40 5,zx 41 (.arith .sub .i64 (.tmp 40) (.const (.int .i64 1))),zd 42 2 39 41,zx 43 (.load [.int .i64,.int .i64] true (.tmp 42)),zx 44 (.eqa true [.int .i64,.int .i64] (.tmp 38) (.tmp 43))]) (.cond (.tmp 44) (.ref 2) .skip))) (.ref 3)
def T46n5:XC:=.seq (.seq (.ops [zm 29 5,zm 30 4,ze 31 30,zk 32 .lss 29 31]) (.cond (.tmp 32) .skip (.exit 2))) (.ref 4)
def T46n6:XC:=.seq (.ops [zm 57 0,zm 58 3,zx 59 (.sub 2 (.tmp 57) none (some (.tmp 58))),zm 2 59]) .ret
def T46n7:XC:=.seq (.ops [zm 54 0,zm 55 3,zx 56 (.sub 2 (.tmp 54) (some (.tmp 55)) none),zn (.clr 2 [.int .i64 0,.int .i64 0] (.tmp 56))]) (.ref 6)
def T46n8:XC:=.seq (.seq (.ops [zx 5 (.mov (.const (.int .i64 1)))]) (.blk 2 (.loop (.ref 5)))) (.ref 7)
def T46n9:XC:=.seq (.ops [zm 26 0,zm 27 3,zx 28 (.sub 2 (.tmp 26) (some (.tmp 27)) none),zm 4 28]) (.ref 8)
def T46n10:XC:=.ops [zm 14 3,zp 15 14,zm 3 15]
def T46n11:XC:=.seq (.blk 1 (.seq (.ops [zm 16 0,zm 17 3,zd 18 2 16 17,zx 19 (.load [.int .i64,.int .i64] true (.tmp 18)),zm 20 0,zm 21 3,zx 22 (.arith .sub .i64 (.tmp 21) (.const (.int .i64 1))),zd 23 2 20 22,zx 24 (.load [.int .i64,.int .i64] true (.tmp 23)),zx 25 (.eqa false [.int .i64,.int .i64] (.tmp 19) (.tmp 24))]) (.cond (.tmp 25) (.ref 9) .skip))) (.ref 10)
def T46n12:XC:=.seq (.seq (.ops [zm 10 3,zm 11 0,ze 12 11,zk 13 .lss 10 12]) (.cond (.tmp 13) .skip (.exit 0))) (.ref 11)
def T46n13:XC:=.seq (.ops [zm 60 0,zm 2 60]) .ret
def T46n14:XC:=.seq (.seq (.ops [zx 3 (.mov (.const (.int .i64 1)))]) (.blk 0 (.loop (.ref 12)))) (.ref 13)
def T46n15:XC:=.seq (.seq (.ops [zm 6 0,ze 7 6,zx 8 (.cmp .lss .i64 (.tmp 7) (.const (.int .i64 2)))]) (.cond (.tmp 8) (.ref 0) .skip)) (.ref 14)
def T46:Nat→XC
 | 0=>T46n0
 | 1=>T46n1
 | 2=>T46n2
 | 3=>T46n3
 | 4=>T46n4
 | 5=>T46n5
 | 6=>T46n6
 | 7=>T46n7
 | 8=>T46n8
 | 9=>T46n9
 | 10=>T46n10
 | 11=>T46n11
 | 12=>T46n12
 | 13=>T46n13
 | 14=>T46n14
 | 15=>T46n15
 | _=>.skip
theorem t46n0:T46 0=T46n0:=rfl
theorem t46n1:T46 1=T46n1:=rfl
theorem t46n2:T46 2=T46n2:=rfl
theorem t46n3:T46 3=T46n3:=rfl
theorem t46n4:T46 4=T46n4:=rfl
theorem t46n5:T46 5=T46n5:=rfl
theorem t46n6:T46 6=T46n6:=rfl
theorem t46n7:T46 7=T46n7:=rfl
theorem t46n8:T46 8=T46n8:=rfl
theorem t46n9:T46 9=T46n9:=rfl
theorem t46n10:T46 10=T46n10:=rfl
theorem t46n11:T46 11=T46n11:=rfl
theorem t46n12:T46 12=T46n12:=rfl
theorem t46n13:T46 13=T46n13:=rfl
theorem t46n14:T46 14=T46n14:=rfl
theorem t46n15:T46 15=T46n15:=rfl
def X46:XC:=.seq (.ops [zx 2 (.mov (.const (.slice none 0 0)))]) (.ref 15)
abbrev K46:List Nat:=[0,2,3,4,5,8,13,25,32,44]
theorem n46:Tryz.f46.ntmps=61:=by kernel_rfl
theorem r46:resT Tryz.f46.results.toList=some [2]:=by kernel_rfl
theorem x46:cmpF Tryz.prog Tryz.f46=some (expand T46 17 X46):=by kernel_rfl
def T72n0:XC:=.seq (.ops [zf 11 1 1,zl 12 11,zx 13 (.buildS 3 1 1 [.int .i64 0] [(0,.tmp 12)]),zc 14 74 [.tmp 13],zm 2 14]) .ret
def T72n1:XC:=.seq (.ops [zx 2 (.mov (.const (.int .u8 0)))]) .ret
def T72n2:XC:=.seq (.seq (.ops [zf 3 0 1,zl 4 3,zx 5 (.cmp .geq .i64 (.tmp 4) (.const (.int .i64 2))),zm 6 5,zg 7 6 true (.fld 0 (.tmp 1)),zg 8 6 true (.load [.int .i64] false (.tmp 7)),zg 9 6 true (.cmp .leq .i64 (.tmp 8) (.const (.int .i64 11))),zx 10 (.pick (.tmp 6) (.tmp 9) (.const (.bool false)))]) (.cond (.tmp 10) (.ref 0) .skip)) (.ref 1)
def T72:Nat→XC
 | 0=>T72n0
 | 1=>T72n1
 | 2=>T72n2
 | _=>.skip
theorem t72n0:T72 0=T72n0:=rfl
theorem t72n1:T72 1=T72n1:=rfl
theorem t72n2:T72 2=T72n2:=rfl
def X72:XC:=.seq (.ops [zx 1 (.box 41 5 (.tmp 0)),zx 2 (.mov (.const (.int .u8 0)))]) (.ref 2)
abbrev K72:List Nat:=[0,1,2,10]
theorem n72:Tryz.f72.ntmps=15:=by kernel_rfl
theorem r72:resT Tryz.f72.results.toList=some [2]:=by kernel_rfl
theorem x72:cmpF Tryz.prog Tryz.f72=some (expand T72 4 X72):=by kernel_rfl
def T73n0:XC:=.seq (.ops [zx 14 (.mkfn (.func 103) [] [.tmp 3,.tmp 5,.tmp 2]),zm 4 14]) .ret
def T73n1:XC:=.seq (.ops [zx 6 (.load [.ptr] false (.tmp 2)),zx 7 (.nilc (.tmp 6)),zf 8 0 7,zx 9 (.load [.slc] false (.tmp 8)),zf 10 0 3,zl 11 10,zd 12 5 9 11,zi 13 12,zx 5 (.alloc 41 [.int .i64 0,.int .i64 0,.int .i64 0,.int .i64 0,.int .i64 0]),zn (.store 5 (.tmp 5) (.tmp 13))]) (.ref 0)
def T73:Nat→XC
 | 0=>T73n0
 | 1=>T73n1
 | _=>.skip
theorem t73n0:T73 0=T73n0:=rfl
theorem t73n1:T73 1=T73n1:=rfl
def X73:XC:=.seq (.ops [zx 2 (.box 73 1 (.tmp 0)),zx 3 (.box 79 2 (.tmp 1)),zx 4 (.mov (.const .nilFunc))]) (.ref 1)
abbrev K73:List Nat:=[0,1,2,3,4,5]
theorem n73:Tryz.f73.ntmps=15:=by kernel_rfl
theorem r73:resT Tryz.f73.results.toList=some [4]:=by kernel_rfl
theorem x73:cmpF Tryz.prog Tryz.f73=some (expand T73 3 X73):=by kernel_rfl
def T74n0:XC:=.ops [zm 11 2,zm 12 4,zx 13 (.shift .shl .u8 (.const (.int .u8 1)) (.tmp 12)),zx 14 (.bits .or .u8 (.tmp 11) (.tmp 13)),zm 2 14]
def T74n1:XC:=.seq (.blk 1 (.seq (.ops [zd 9 1 5 7,zl 10 9,zm 4 10]) (.ref 0))) (.ops [zp 15 7,zm 7 15])
def T74n2:XC:=.seq (.cond (.tmp 8) .skip (.exit 0)) (.ref 1)
def T74n3:XC:=.seq (.ops [zk 8 .lss 7 6]) (.ref 2)
def T74n4:XC:=.seq (.ops [zm 16 2,zm 2 16]) .ret
def T74n5:XC:=.seq (.seq (.ops [zm 5 0,ze 6 5,zx 7 (.mov (.const (.int .i64 0)))]) (.blk 0 (.loop (.ref 3)))) (.ref 4)
def T74:Nat→XC
 | 0=>T74n0
 | 1=>T74n1
 | 2=>T74n2
 | 3=>T74n3
 | 4=>T74n4
 | 5=>T74n5
 | _=>.skip
theorem t74n0:T74 0=T74n0:=rfl
theorem t74n1:T74 1=T74n1:=rfl
theorem t74n2:T74 2=T74n2:=rfl
theorem t74n3:T74 3=T74n3:=rfl
theorem t74n4:T74 4=T74n4:=rfl
theorem t74n5:T74 5=T74n5:=rfl
def X74:XC:=.seq (.ops [zx 2 (.mov (.const (.int .u8 0)))]) (.ref 5)
abbrev K74:List Nat:=[0,2,4,5,6,7,8]
theorem n74:Tryz.f74.ntmps=17:=by kernel_rfl
theorem r74:resT Tryz.f74.results.toList=some [2]:=by kernel_rfl
theorem x74:cmpF Tryz.prog Tryz.f74=some (expand T74 7 X74):=by kernel_rfl
def T103n0:XC:=.ops [zx 18 (.load [.ptr] false (.tmp 3)),zf 19 0 1,zl 20 19,zc 21 41 [.tmp 18,.const (.int .i64 4),.tmp 20]]
def T103n1:XC:=.seq (.seq (.ops [zf 16 1 1,zx 17 (.load [.bool] false (.tmp 16))]) (.cond (.tmp 17) (.ref 0) .skip)) .ret
def T103n2:XC:=.seq (.ops [zx 30 (.load [.ptr] false (.tmp 3)),zf 31 0 1,zl 32 31,zc 33 41 [.tmp 30,.const (.int .i64 3),.tmp 32]]) .ret
def T103n3:XC:=.seq (.ops [zx 43 (.load [.ptr] false (.tmp 3)),zf 44 0 1,zl 45 44,zc 46 41 [.tmp 43,.const (.int .i64 2),.tmp 45]]) .ret
def T103n4:XC:=.ops [zf 56 1 1,zx 57 (.load [.bool] false (.tmp 56)),zx 58 (.not (.tmp 57)),zf 59 1 5,zn (.store 1 (.tmp 59) (.tmp 58))]
def T103n5:XC:=.ops [zx 77 (.load [.ptr] false (.tmp 3)),zf 78 0 1,zl 79 78,zc 80 41 [.tmp 77,.const (.int .i64 6),.tmp 79]]
def T103n6:XC:=.seq (.ops [zm 81 0,zf 82 4 2,zl 83 82,zf 84 1 1,zx 85 (.load [.bool] false (.tmp 84)),zx 86 (.build [.int .i64 0,.bool false] [(0,1,.tmp 83),(1,1,.tmp 85)]),.mk (some 87) none (.callv (.tmp 81) [.tmp 86]),zx 88 (.not (.tmp 87))]) (.cond (.tmp 88) .ret .skip)
def T103n7:XC:=.seq (.ops [zf 89 0 2,zl 90 89,zx 91 (.cmp .eql .i64 (.tmp 90) (.const (.int .i64 13)))]) (.cond (.tmp 91) .ret .skip)
def T103n8:XC:=.seq (.seq (.ops [zf 69 4 2,zl 70 69,zx 71 (.cmp .lss .i64 (.tmp 70) (.const (.int .i64 0))),zm 72 71,zg 73 72 false (.fld 4 (.tmp 2)),zg 74 72 false (.load [.int .i64] false (.tmp 73)),zg 75 72 false (.cmp .gtr .i64 (.tmp 74) (.const (.int .i64 1024))),zx 76 (.pick (.tmp 72) (.const (.bool true)) (.tmp 75))]) (.cond (.tmp 76) (.ref 5) (.ref 6))) (.ref 7)
def T103n9:XC:=.seq (.ops [zf 61 0 2,zl 62 61,zx 63 (.cmp .geq .i64 (.tmp 62) (.const (.int .i64 13))),zm 64 63,zg 65 64 true (.fld 0 (.tmp 2)),zg 66 64 true (.load [.int .i64] false (.tmp 65)),zg 67 64 true (.cmp .leq .i64 (.tmp 66) (.const (.int .i64 16))),zx 68 (.pick (.tmp 64) (.tmp 67) (.const (.bool false))),zm 60 68]) (.cond (.tmp 60) (.ref 8) .skip)
def T103n10:XC:=.seq (.ops [zf 48 0 2,zl 49 48,zx 50 (.cmp .eql .i64 (.tmp 49) (.const (.int .i64 17))),zm 51 50,zg 52 51 false (.fld 0 (.tmp 2)),zg 53 51 false (.load [.int .i64] false (.tmp 52)),zg 54 51 false (.cmp .eql .i64 (.tmp 53) (.const (.int .i64 18))),zx 55 (.pick (.tmp 51) (.const (.bool true)) (.tmp 54)),zm 47 55]) (.cond (.tmp 47) (.ref 4) (.ref 9))
def T103n11:XC:=.seq (.ops [zf 35 0 2,zl 36 35,zx 37 (.cmp .eql .i64 (.tmp 36) (.const (.int .i64 18))),zm 38 37,zg 39 38 true (.fld 1 (.tmp 1)),zg 40 38 true (.load [.bool] false (.tmp 39)),zg 41 38 true (.not (.tmp 40)),zx 42 (.pick (.tmp 38) (.tmp 41) (.const (.bool false))),zm 34 42]) (.cond (.tmp 34) (.ref 3) (.ref 10))
def T103n12:XC:=.seq (.ops [zf 23 0 2,zl 24 23,zx 25 (.cmp .eql .i64 (.tmp 24) (.const (.int .i64 17))),zm 26 25,zg 27 26 true (.fld 1 (.tmp 1)),zg 28 26 true (.load [.bool] false (.tmp 27)),zx 29 (.pick (.tmp 26) (.tmp 28) (.const (.bool false))),zm 22 29]) (.cond (.tmp 22) (.ref 2) (.ref 11))
def T103n13:XC:=.ops [zm 92 0,zx 93 (.load [.int .i64,.bool] true (.tmp 5)),.mk (some 94) none (.callv (.tmp 92) [.tmp 93])]
def T103n14:XC:=.seq (.blk 0 (.seq (.ops [zf 13 0 2,zl 14 13,zx 15 (.cmp .eql .i64 (.tmp 14) (.const (.int .i64 1))),zm 12 15]) (.cond (.tmp 12) (.ref 1) (.ref 12)))) (.ref 13)
def T103:Nat→XC
 | 0=>T103n0
 | 1=>T103n1
 | 2=>T103n2
 | 3=>T103n3
 | 4=>T103n4
 | 5=>T103n5
 | 6=>T103n6
 | 7=>T103n7
 | 8=>T103n8
 | 9=>T103n9
 | 10=>T103n10
 | 11=>T103n11
 | 12=>T103n12
 | 13=>T103n13
 | 14=>T103n14
 | _=>.skip
theorem t103n0:T103 0=T103n0:=rfl
theorem t103n1:T103 1=T103n1:=rfl
theorem t103n2:T103 2=T103n2:=rfl
theorem t103n3:T103 3=T103n3:=rfl
theorem t103n4:T103 4=T103n4:=rfl
theorem t103n5:T103 5=T103n5:=rfl
theorem t103n6:T103 6=T103n6:=rfl
theorem t103n7:T103 7=T103n7:=rfl
theorem t103n8:T103 8=T103n8:=rfl
theorem t103n9:T103 9=T103n9:=rfl
theorem t103n10:T103 10=T103n10:=rfl
theorem t103n11:T103 11=T103n11:=rfl
theorem t103n12:T103 12=T103n12:=rfl
theorem t103n13:T103 13=T103n13:=rfl
theorem t103n14:T103 14=T103n14:=rfl
def X103:XC:=.seq (.ops [zf 6 0 1,zl 7 6,zp 8 7,zf 9 1 1,zx 10 (.load [.bool] false (.tmp 9)),zx 11 (.build [.int .i64 0,.bool false] [(0,1,.tmp 8),(1,1,.tmp 10)]),zx 5 (.alloc 79 [.int .i64 0,.bool false]),zn (.store 2 (.tmp 5) (.tmp 11))]) (.ref 14)
abbrev K103:List Nat:=[0,1,2,3,5,12,17,22,34,47,60,76,88,91]
theorem n103:Tryz.f103.ntmps=95:=by kernel_rfl
theorem r103:resT Tryz.f103.results.toList=some []:=by kernel_rfl
theorem x103:cmpF Tryz.prog Tryz.f103=some (expand T103 16 X103):=by kernel_rfl
attribute [go_sem] t22n0 t22n1 t22n2 t22n3 t22n4 t22n5 t22n6 t22n7 t22n8 t22n9 t22n10 t22n11 t22n12 t22n13 t22n14 t22n15 t22n16 t22n17 t22n18 t22n19 t22n20 T22n0 T22n1 T22n2 T22n3 T22n4 T22n5 T22n6 T22n7 T22n8 T22n9 T22n10 T22n11 T22n12 T22n13 T22n14 T22n15 T22n16 T22n17 T22n18 T22n19 T22n20 X22
attribute [go_sem] t39n0 t39n1 t39n2 t39n3 t39n4 t39n5 t39n6 t39n7 t39n8 t39n9 t39n10 t39n11 t39n12 t39n13 t39n14 t39n15 t39n16 t39n17 t39n18 t39n19 T39n0 T39n1 T39n2 T39n3 T39n4 T39n5 T39n6 T39n7 T39n8 T39n9 T39n10 T39n11 T39n12 T39n13 T39n14 T39n15 T39n16 T39n17 T39n18 T39n19 X39
attribute [go_sem] t40n0 t40n1 t40n2 t40n3 t40n4 t40n5 t40n6 T40n0 T40n1 T40n2 T40n3 T40n4 T40n5 T40n6 X40
attribute [go_sem] t46n0 t46n1 t46n2 t46n3 t46n4 t46n5 t46n6 t46n7 t46n8 t46n9 t46n10 t46n11 t46n12 t46n13 t46n14 t46n15 T46n0 T46n1 T46n2 T46n3 T46n4 T46n5 T46n6 T46n7 T46n8 T46n9 T46n10 T46n11 T46n12 T46n13 T46n14 T46n15 X46
attribute [go_sem] t72n0 t72n1 t72n2 T72n0 T72n1 T72n2 X72
attribute [go_sem] t73n0 t73n1 T73n0 T73n1 X73
attribute [go_sem] t74n0 t74n1 t74n2 t74n3 t74n4 t74n5 T74n0 T74n1 T74n2 T74n3 T74n4 T74n5 X74
attribute [go_sem] t103n0 t103n1 t103n2 t103n3 t103n4 t103n5 t103n6 t103n7 t103n8 t103n9 t103n10 t103n11 t103n12 t103n13 t103n14 T103n0 T103n1 T103n2 T103n3 T103n4 T103n5 T103n6 T103n7 T103n8 T103n9 T103n10 T103n11 T103n12 T103n13 T103n14 X103
attribute [go_sem] X41
end Go.Proofs.YtlbiogokpadaoaaGreatDoor
