/- Printed by program: the small code of functions, and that it is theirs. -/
import Derived.Test.YtgghmmjoplddbaaGreatDoorSxStill
import Derived.Test.YtgghmmjoplddbaaGreatDoorProg
import Derived.KernelRfl
set_option linter.unusedSimpArgs false
set_option linter.unusedVariables false
set_option linter.unnecessarySimpa false
namespace Go.Proofs.YtgghmmjoplddbaaGreatDoor
open Go Go.Sx
set_option maxRecDepth 100000
def T7n0:XC:=.seq (.ops [zx 2 (.mov (.const (.slice none 0 0))),zx 3 (.mov (.const (.int .i64 2)))]) .ret
def T7n1:XC:=.ops [zm 61 4,zm 62 5,zc 63 21 [.tmp 61,.const (.int .i64 7),.tmp 62]]
def T7n2:XC:=.seq (.ops [zm 49 11,zm 50 49,zg 51 50 true (.load [.int .i64,.int .i64,.int .i64,.int .i64,.int .i64] true (.tmp 6)),.mk (some 52) (some (50,true)) (.call 11 [.tmp 51]),zx 53 (.pick (.tmp 50) (.tmp 52) (.const (.bool false))),zm 54 53,zg 55 54 true (.load [.int .i64,.int .i64,.int .i64,.int .i64,.int .i64] true (.tmp 6)),.mk (some 56) (some (54,true)) (.call 20 [.tmp 55]),zh 57 54 true 10,zg 58 54 true (.bits .andNot .u8 (.tmp 56) (.tmp 57)),zg 59 54 true (.cmp .neq .u8 (.tmp 58) (.const (.int .u8 0))),zx 60 (.pick (.tmp 54) (.tmp 59) (.const (.bool false)))]) (.cond (.tmp 60) (.ref 1) .skip)
def T7n3:XC:=.seq (.ops [zm 45 7,zm 46 45,zh 47 46 false 11,zx 48 (.pick (.tmp 46) (.const (.bool true)) (.tmp 47)),zm 7 48]) (.ref 2)
def T7n4:XC:=.seq (.ops [zm 35 4,zx 36 (.nilc (.tmp 35)),zf 37 1 36,zx 38 (.load [.map] false (.tmp 37)),zm 39 5,zm 40 9,zx 41 (.build [.int .i64 0,.bool false] [(0,1,.tmp 39),(1,1,.tmp 40)]),zx 42 (.lkupA [.int .i64,.bool] (.int .u8 0) true (.tmp 38) (.tmp 41)),zm 34 42,zy 43 34 0,zy 44 34 1,zm 10 43,zm 11 44]) (.ref 3)
def T7n5:XC:=.seq (.blk 3 (.seq (.ops [zd 32 1 28 30,zx 33 (.load [.bool] false (.tmp 32)),zm 9 33]) (.ref 4))) (.ops [zp 64 30,zm 30 64])
def T7n6:XC:=.seq (.cond (.tmp 31) .skip (.exit 2)) (.ref 5)
def T7n7:XC:=.seq (.ops [zk 31 .lss 30 29]) (.ref 6)
def T7n8:XC:=.ops [zm 67 4,zm 68 5,zc 69 21 [.tmp 67,.const (.int .i64 8),.tmp 68]]
def T7n9:XC:=.seq (.ops [zm 65 7,zx 66 (.not (.tmp 65))]) (.cond (.tmp 66) (.ref 8) .skip)
def T7n10:XC:=.seq (.seq (.ops [zx 28 (.buildS 4 2 1 [.bool false] [(0,.const (.bool false)),(1,.const (.bool true))]),ze 29 28,zx 30 (.mov (.const (.int .i64 0)))]) (.blk 2 (.loop (.ref 7)))) (.ref 9)
def T7n11:XC:=.seq (.ops [zx 7 (.mov (.const (.bool false)))]) (.ref 10)
def T7n12:XC:=.seq (.blk 1 (.seq (.ops [zm 25 23,zd 26 5 21 23,zi 27 26,zx 6 (.alloc 47 [.int .i64 0,.int .i64 0,.int .i64 0,.int .i64 0,.int .i64 0]),zm 5 25,zn (.store 5 (.tmp 6) (.tmp 27))]) (.ref 11))) (.ops [zp 70 23,zm 23 70])
def T7n13:XC:=.seq (.cond (.tmp 24) .skip (.exit 0)) (.ref 12)
def T7n14:XC:=.seq (.ops [zk 24 .lss 23 22]) (.ref 13)
def T7n15:XC:=.seq (.ops [zm 76 4,zx 77 (.nilc (.tmp 76)),zf 78 2 77,zx 79 (.load [.slc] false (.tmp 78)),zc 80 26 [.tmp 79],zm 2 80,zx 3 (.mov (.const (.int .i64 0)))]) .ret
def T7n16:XC:=.seq (.ops [zm 71 4,zx 72 (.nilc (.tmp 71)),zf 73 2 72,zx 74 (.load [.slc] false (.tmp 73)),zc 75 22 [.tmp 74,.func 23]]) (.ref 15)
def T7n17:XC:=.seq (.seq (.ops [zm 21 0,ze 22 21,zx 23 (.mov (.const (.int .i64 0)))]) (.blk 0 (.loop (.ref 14)))) (.ref 16)
def T7n18:XC:=.seq (.ops [zm 19 4,zc 20 19 [.tmp 19]]) (.ref 17)
def T7n19:XC:=.seq (.ops [zm 15 0,.mk (some 16) none (.k .mkmap),zx 17 (.build [.slice none 0 0,.map none,.slice none 0 0] [(0,1,.tmp 15),(1,1,.tmp 16)]),zx 18 (.box 64 3 (.tmp 17)),zm 4 18]) (.ref 18)
def T7n20:XC:=.seq (.seq (.ops [zm 12 0,ze 13 12,zx 14 (.cmp .gtr .i64 (.tmp 13) (.const (.int .i64 1024)))]) (.cond (.tmp 14) (.ref 0) .skip)) (.ref 19)
def T7:Nat→XC
 | 0=>T7n0
 | 1=>T7n1
 | 2=>T7n2
 | 3=>T7n3
 | 4=>T7n4
 | 5=>T7n5
 | 6=>T7n6
 | 7=>T7n7
 | 8=>T7n8
 | 9=>T7n9
 | 10=>T7n10
 | 11=>T7n11
 | 12=>T7n12
 | 13=>T7n13
 | 14=>T7n14
 | 15=>T7n15
 | 16=>T7n16
 | 17=>T7n17
 | 18=>T7n18
 | 19=>T7n19
 | 20=>T7n20
 | _=>.skip
theorem t7n0:T7 0=T7n0:=rfl
theorem t7n1:T7 1=T7n1:=rfl
theorem t7n2:T7 2=T7n2:=rfl
theorem t7n3:T7 3=T7n3:=rfl
theorem t7n4:T7 4=T7n4:=rfl
theorem t7n5:T7 5=T7n5:=rfl
theorem t7n6:T7 6=T7n6:=rfl
theorem t7n7:T7 7=T7n7:=rfl
theorem t7n8:T7 8=T7n8:=rfl
theorem t7n9:T7 9=T7n9:=rfl
theorem t7n10:T7 10=T7n10:=rfl
theorem t7n11:T7 11=T7n11:=rfl
theorem t7n12:T7 12=T7n12:=rfl
theorem t7n13:T7 13=T7n13:=rfl
theorem t7n14:T7 14=T7n14:=rfl
theorem t7n15:T7 15=T7n15:=rfl
theorem t7n16:T7 16=T7n16:=rfl
theorem t7n17:T7 17=T7n17:=rfl
theorem t7n18:T7 18=T7n18:=rfl
theorem t7n19:T7 19=T7n19:=rfl
theorem t7n20:T7 20=T7n20:=rfl
def X7:XC:=.seq (.ops [zx 2 (.mov (.const (.slice none 0 0))),zx 3 (.mov (.const (.int .i64 0)))]) (.ref 20)
abbrev K7:List Nat:=[0,2,3,4,5,6,7,9,10,11,14,21,22,23,24,28,29,30,31,60,66]
theorem n7:Tryz.f7.ntmps=81:=by kernel_rfl
theorem r7:resT Tryz.f7.results.toList=some [2,3]:=by kernel_rfl
theorem x7:cmpF Tryz.prog Tryz.f7=some (expand T7 22 X7):=by kernel_rfl
def T19n0:XC:=.seq (.ops [zx 43 (.load [.ptr] false (.tmp 1)),zf 44 0 3,zl 45 44,zc 46 21 [.tmp 43,.const (.int .i64 1),.tmp 45]]) (.exit 1)
def T19n1:XC:=.ops [zx 72 (.load [.ptr] false (.tmp 1)),zf 73 0 3,zl 74 73,zc 75 21 [.tmp 72,.const (.int .i64 5),.tmp 74]]
def T19n2:XC:=.cond (.tmp 86) (.ops [zx 7 (.mov (.const (.int .u8 255)))]) .skip
def T19n3:XC:=.ops [zx 104 (.load [.slc] false (.tmp 2)),zx 105 (.load [.int .i64,.bool] true (.tmp 6)),zx 106 (.buildS 68 1 2 [.int .i64 0,.bool false] [(0,.tmp 105)]),zx 107 (.app 68 2 16 (.tmp 104) (.tmp 106)),zn (.store 1 (.tmp 2) (.tmp 107))]
def T19n4:XC:=.seq (.ops [zx 96 (.load [.ptr] false (.tmp 1)),zx 97 (.nilc (.tmp 96)),zf 98 1 97,zx 99 (.load [.map] false (.tmp 98)),zx 100 (.load [.int .i64,.bool] true (.tmp 6)),zm 101 7,zx 102 (.load [.int .u8] false (.tmp 5)),zx 103 (.bits .and .u8 (.tmp 101) (.tmp 102)),zn (.mupdA [.int .i64,.bool] (.tmp 99) (.tmp 100) (.tmp 103))]) (.ref 3)
def T19n5:XC:=.seq (.ops [zm 87 8,zx 88 (.not (.tmp 87)),zm 89 88,zh 90 89 false 7,zg 91 89 false (.load [.int .u8] false (.tmp 5)),zg 92 89 false (.bits .and .u8 (.tmp 90) (.tmp 91)),zh 93 89 false 7,zg 94 89 false (.cmp .neq .u8 (.tmp 92) (.tmp 93)),zx 95 (.pick (.tmp 89) (.const (.bool true)) (.tmp 94))]) (.cond (.tmp 95) (.ref 4) .skip)
def T19n6:XC:=.seq (.seq (.ops [zm 85 8,zx 86 (.not (.tmp 85))]) (.ref 2)) (.ref 5)
def T19n7:XC:=.seq (.ops [zx 77 (.load [.ptr] false (.tmp 1)),zx 78 (.nilc (.tmp 77)),zf 79 1 78,zx 80 (.load [.map] false (.tmp 79)),zx 81 (.load [.int .i64,.bool] true (.tmp 6)),zx 82 (.lkupA [.int .i64,.bool] (.int .u8 0) true (.tmp 80) (.tmp 81)),zm 76 82,zy 83 76 0,zy 84 76 1,zm 7 83,zm 8 84]) (.ref 6)
def T19n8:XC:=.blk 3 (.seq (.seq (.ops [zf 60 1 6,zx 61 (.load [.bool] false (.tmp 60)),zm 62 61,zg 63 62 true (.fld 0 (.tmp 6)),zg 64 62 true (.load [.int .i64] false (.tmp 63)),zg 65 62 true (.load [.ptr] false (.tmp 1)),zg 66 62 true (.nilc (.tmp 65)),zg 67 62 true (.fld 0 (.tmp 66)),zg 68 62 true (.load [.slc] false (.tmp 67)),zg 69 62 true (.lenS (.tmp 68)),zg 70 62 true (.cmp .geq .i64 (.tmp 64) (.tmp 69)),zx 71 (.pick (.tmp 62) (.tmp 70) (.const (.bool false)))]) (.cond (.tmp 71) (.ref 1) .skip)) (.ref 7))
def T19n9:XC:=.blk 2 (.rng (.tmp 58) [59] (.ops [zx 6 (.alloc 68 [.int .i64 0,.bool false]),zn (.store 2 (.tmp 6) (.tmp 59))]) (.ref 8))
def T19n10:XC:=.seq (.ops [zx 56 (.load [.ptr] false (.tmp 1)),zx 57 (.load [.int .i64,.bool] true (.tmp 3)),zc 58 43 [.tmp 56,.tmp 57]]) (.ref 9)
def T19n11:XC:=.seq (.seq (.ops [zi 40 4,zc 41 11 [.tmp 40],zx 42 (.not (.tmp 41))]) (.cond (.tmp 42) (.ref 0) .skip)) (.seq (.alt 11 (.seq (zx 47 (.load [.ptr] false (.tmp 1))) 0 (.seq (zx 48 (.nilc (.tmp 47))) 1 (.seq (zf 49 1 48) 2 (.seq (zx 50 (.load [.map] false (.tmp 49))) 3 (.seq (zx 51 (.load [.int .i64,.bool] true (.tmp 3))) 4 (.seq (zx 52 (.lkupA [.int .i64,.bool] (.int .u8 0) false (.tmp 50) (.tmp 51))) 5 (.seq (zi 53 4) 6 (.alt (.seq (zc 54 42 [.tmp 53]) 7 (.seq (.mk none none (.still 47 (.load [.ptr] false (.tmp 1)))) 0 (.seq (.mk none none (.still 50 (.load [.map] false (.tmp 49)))) 3 (.seq (.mk none none (.still 51 (.load [.int .i64,.bool] true (.tmp 3)))) 4 (.seq (.mk none none (.still 52 (.lkupA [.int .i64,.bool] (.int .u8 0) false (.tmp 50) (.tmp 51)))) 5 (.seq (zx 55 (.bits .or .u8 (.tmp 52) (.tmp 54))) 8 (.seq (zx 5 (.alloc 5 [.int .u8 0])) 9 (.seq (zn (.store 1 (.tmp 5) (.tmp 55))) 10 .done)))))))) (.seq (zx 5 (.alloc 5 [.int .u8 0])) 9 (.seq (zc 54 42 [.tmp 53]) 7 (.seq (.mk none none (.still 47 (.load [.ptr] false (.tmp 1)))) 0 (.seq (.mk none none (.still 50 (.load [.map] false (.tmp 49)))) 3 (.seq (.mk none none (.still 51 (.load [.int .i64,.bool] true (.tmp 3)))) 4 (.seq (.mk none none (.still 52 (.lkupA [.int .i64,.bool] (.int .u8 0) false (.tmp 50) (.tmp 51)))) 5 (.seq (zx 55 (.bits .or .u8 (.tmp 52) (.tmp 54))) 8 (.seq (zn (.store 1 (.tmp 5) (.tmp 55))) 10 .done))))))))))))))))) (.ref 10))
def T19n12:XC:=.seq (.ops [zx 32 (.load [.ptr] false (.tmp 1)),zx 33 (.nilc (.tmp 32)),zf 34 0 33,zx 35 (.load [.slc] false (.tmp 34)),zf 36 0 3,zl 37 36,zd 38 5 35 37,zi 39 38,zx 4 (.alloc 47 [.int .i64 0,.int .i64 0,.int .i64 0,.int .i64 0,.int .i64 0]),zn (.store 5 (.tmp 4) (.tmp 39))]) (.ref 11)
def T19n13:XC:=.seq (.seq (.ops [zf 24 0 3,zl 25 24,zx 26 (.load [.ptr] false (.tmp 1)),zx 27 (.nilc (.tmp 26)),zf 28 0 27,zx 29 (.load [.slc] false (.tmp 28)),ze 30 29,zk 31 .geq 25 30]) (.cond (.tmp 31) (.exit 1) .skip)) (.ref 12)
def T19n14:XC:=.seq (.ops [zx 22 (.load [.slc] false (.tmp 2)),zx 23 (.sub 2 (.tmp 22) (some (.const (.int .i64 1))) none),zn (.store 1 (.tmp 2) (.tmp 23))]) (.ref 13)
def T19n15:XC:=.blk 1 (.seq (.ops [zx 19 (.load [.slc] false (.tmp 2)),zx 20 (.idx 2 (.tmp 19) (.const (.int .i64 0))),zx 21 (.load [.int .i64,.bool] true (.tmp 20)),zx 3 (.alloc 68 [.int .i64 0,.bool false]),zn (.store 2 (.tmp 3) (.tmp 21))]) (.ref 14))
def T19n16:XC:=.seq (.seq (.ops [zx 16 (.load [.slc] false (.tmp 2)),ze 17 16,zx 18 (.cmp .gtr .i64 (.tmp 17) (.const (.int .i64 0)))]) (.cond (.tmp 18) .skip (.exit 0))) (.ref 15)
def T19n17:XC:=.seq (.lab) (.blk 0 (.loop (.ref 16)))
def T19n18:XC:=.seq (.ops [zx 11 (.load [.ptr] false (.tmp 1)),zx 12 (.nilc (.tmp 11)),zf 13 1 12,zx 14 (.load [.map] false (.tmp 13)),zx 15 (.build [.int .i64 0,.bool false] []),zn (.mupdA [.int .i64,.bool] (.tmp 14) (.tmp 15) (.const (.int .u8 0)))]) (.ref 17)
def T19n19:XC:=.scp (.seq (.ops [zx 9 (.build [.int .i64 0,.bool false] []),zx 10 (.buildS 68 1 2 [.int .i64 0,.bool false] [(0,.tmp 9)]),zx 2 (.alloc 98 [.slice none 0 0]),zn (.store 1 (.tmp 2) (.tmp 10))]) (.ref 18))
def T19:Nat→XC
 | 0=>T19n0
 | 1=>T19n1
 | 2=>T19n2
 | 3=>T19n3
 | 4=>T19n4
 | 5=>T19n5
 | 6=>T19n6
 | 7=>T19n7
 | 8=>T19n8
 | 9=>T19n9
 | 10=>T19n10
 | 11=>T19n11
 | 12=>T19n12
 | 13=>T19n13
 | 14=>T19n14
 | 15=>T19n15
 | 16=>T19n16
 | 17=>T19n17
 | 18=>T19n18
 | 19=>T19n19
 | _=>.skip
theorem t19n0:T19 0=T19n0:=rfl
theorem t19n1:T19 1=T19n1:=rfl
theorem t19n2:T19 2=T19n2:=rfl
theorem t19n3:T19 3=T19n3:=rfl
theorem t19n4:T19 4=T19n4:=rfl
theorem t19n5:T19 5=T19n5:=rfl
theorem t19n6:T19 6=T19n6:=rfl
theorem t19n7:T19 7=T19n7:=rfl
theorem t19n8:T19 8=T19n8:=rfl
theorem t19n9:T19 9=T19n9:=rfl
theorem t19n10:T19 10=T19n10:=rfl
theorem t19n11:T19 11=T19n11:=rfl
theorem t19n12:T19 12=T19n12:=rfl
theorem t19n13:T19 13=T19n13:=rfl
theorem t19n14:T19 14=T19n14:=rfl
theorem t19n15:T19 15=T19n15:=rfl
theorem t19n16:T19 16=T19n16:=rfl
theorem t19n17:T19 17=T19n17:=rfl
theorem t19n18:T19 18=T19n18:=rfl
theorem t19n19:T19 19=T19n19:=rfl
def X19:XC:=.seq (.ops [zx 1 (.box 61 1 (.tmp 0))]) (.ref 19)
abbrev K19:List Nat:=[0,1,2,3,4,5,6,7,8,18,31,42,47,48,49,50,51,52,53,54,55,58,59,71,86,95]
theorem n19:Tryz.f19.ntmps=108:=by kernel_rfl
theorem r19:resT Tryz.f19.results.toList=some []:=by kernel_rfl
theorem x19:cmpF Tryz.prog Tryz.f19=some (expand T19 21 X19):=by kernel_rfl
def T20n0:XC:=.seq (.ops [zf 12 2 1,zl 13 12,zx 14 (.buildS 3 1 1 [.int .i64 0] [(0,.tmp 13)]),zc 15 44 [.tmp 14],zm 2 15]) .ret
def T20n1:XC:=.seq (.ops [zf 25 2 1,zl 26 25,zf 27 3 1,zl 28 27,zx 29 (.buildS 3 2 1 [.int .i64 0] [(0,.tmp 26),(1,.tmp 28)]),zc 30 44 [.tmp 29],zm 2 30]) .ret
def T20n2:XC:=.seq (.ops [zf 45 1 1,zl 46 45,zf 47 2 1,zl 48 47,zx 49 (.buildS 3 2 1 [.int .i64 0] [(0,.tmp 46),(1,.tmp 48)]),zc 50 44 [.tmp 49],zm 2 50]) .ret
def T20n3:XC:=.seq (.ops [zf 32 0 1,zl 33 32,zx 34 (.cmp .eql .i64 (.tmp 33) (.const (.int .i64 12))),zm 35 34,zg 36 35 false (.fld 0 (.tmp 1)),zg 37 35 false (.load [.int .i64] false (.tmp 36)),zg 38 35 false (.cmp .geq .i64 (.tmp 37) (.const (.int .i64 14))),zh 39 35 false 38,zg 40 39 true (.fld 0 (.tmp 1)),zg 41 39 true (.load [.int .i64] false (.tmp 40)),zg 42 39 true (.cmp .leq .i64 (.tmp 41) (.const (.int .i64 16))),zg 43 35 false (.pick (.tmp 39) (.tmp 42) (.const (.bool false))),zx 44 (.pick (.tmp 35) (.const (.bool true)) (.tmp 43)),zm 31 44]) (.cond (.tmp 31) (.ref 2) .skip)
def T20n4:XC:=.seq (.ops [zf 17 0 1,zl 18 17,zx 19 (.cmp .geq .i64 (.tmp 18) (.const (.int .i64 4))),zm 20 19,zg 21 20 true (.fld 0 (.tmp 1)),zg 22 20 true (.load [.int .i64] false (.tmp 21)),zg 23 20 true (.cmp .leq .i64 (.tmp 22) (.const (.int .i64 10))),zx 24 (.pick (.tmp 20) (.tmp 23) (.const (.bool false))),zm 16 24]) (.cond (.tmp 16) (.ref 1) (.ref 3))
def T20n5:XC:=.seq (.ops [zx 2 (.mov (.const (.int .u8 0)))]) .ret
def T20n6:XC:=.seq (.blk 0 (.seq (.ops [zf 4 0 1,zl 5 4,zx 6 (.cmp .eql .i64 (.tmp 5) (.const (.int .i64 3))),zm 7 6,zg 8 7 false (.fld 0 (.tmp 1)),zg 9 7 false (.load [.int .i64] false (.tmp 8)),zg 10 7 false (.cmp .eql .i64 (.tmp 9) (.const (.int .i64 11))),zx 11 (.pick (.tmp 7) (.const (.bool true)) (.tmp 10)),zm 3 11]) (.cond (.tmp 3) (.ref 0) (.ref 4)))) (.ref 5)
def T20:Nat→XC
 | 0=>T20n0
 | 1=>T20n1
 | 2=>T20n2
 | 3=>T20n3
 | 4=>T20n4
 | 5=>T20n5
 | 6=>T20n6
 | _=>.skip
theorem t20n0:T20 0=T20n0:=rfl
theorem t20n1:T20 1=T20n1:=rfl
theorem t20n2:T20 2=T20n2:=rfl
theorem t20n3:T20 3=T20n3:=rfl
theorem t20n4:T20 4=T20n4:=rfl
theorem t20n5:T20 5=T20n5:=rfl
theorem t20n6:T20 6=T20n6:=rfl
def X20:XC:=.seq (.ops [zx 1 (.box 47 5 (.tmp 0)),zx 2 (.mov (.const (.int .u8 0)))]) (.ref 6)
abbrev K20:List Nat:=[0,1,2,3,16,31]
theorem n20:Tryz.f20.ntmps=51:=by kernel_rfl
theorem r20:resT Tryz.f20.results.toList=some [2]:=by kernel_rfl
theorem x20:cmpF Tryz.prog Tryz.f20=some (expand T20 8 X20):=by kernel_rfl
def T21:Nat→XC
 | _=>.skip
def X21:XC:=.ops [zm 6 0,zm 7 0,zx 8 (.nilc (.tmp 7)),zf 9 2 8,zx 10 (.load [.slc] false (.tmp 9)),zm 11 1,zm 12 2,zx 13 (.build [.int .i64 0,.int .i64 0] [(0,1,.tmp 11),(1,1,.tmp 12)]),zx 14 (.buildS 33 1 2 [.int .i64 0,.int .i64 0] [(0,.tmp 13)]),zx 15 (.app 33 2 16 (.tmp 10) (.tmp 14)),zx 16 (.nilc (.tmp 6)),zf 17 2 16,zn (.store 1 (.tmp 17) (.tmp 15))]
abbrev K21:List Nat:=[0,1,2]
theorem n21:Tryz.f21.ntmps=18:=by kernel_rfl
theorem r21:resT Tryz.f21.results.toList=some []:=by kernel_rfl
theorem x21:cmpF Tryz.prog Tryz.f21=some (expand T21 1 X21):=by kernel_rfl
theorem n23:Tryz.f23.ntmps=17:=by kernel_rfl
def T26n0:XC:=.seq (.ops [zm 9 0,zm 2 9]) .ret
def T26n1:XC:=.ops [zm 52 3,zp 53 52,zm 3 53]
def T26n2:XC:=.seq (.ops [zm 45 0,zm 46 3,zm 47 4,zm 48 5,zd 49 2 47 48,zx 50 (.load [.int .i64,.int .i64] true (.tmp 49)),zd 51 2 45 46,zn (.store 2 (.tmp 51) (.tmp 50))]) (.ref 1)
def T26n3:XC:=.ops [zm 33 5,zp 34 33,zm 5 34]
def T26n4:XC:=.seq (.blk 3 (.seq (.ops [zm 35 4,zm 36 5,zd 37 2 35 36,zx 38 (.load [.int .i64,.int .i64] true (.tmp 37)),zm 39 4,zm 40 5,zx 41 (.arith .sub .i64 (.tmp 40) (.const (.int .i64 1))),zd 42 2 39 41,zx 43 (.load [.int .i64,.int .i64] true (.tmp 42)),zx 44 (.eqa true [.int .i64,.int .i64] (.tmp 38) (.tmp 43))]) (.cond (.tmp 44) (.ref 2) .skip))) (.ref 3)
def T26n5:XC:=.seq (.seq (.ops [zm 29 5,zm 30 4,ze 31 30,zk 32 .lss 29 31]) (.cond (.tmp 32) .skip (.exit 2))) (.ref 4)
def T26n6:XC:=.seq (.ops [zm 57 0,zm 58 3,zx 59 (.sub 2 (.tmp 57) none (some (.tmp 58))),zm 2 59]) .ret
def T26n7:XC:=.seq (.ops [zm 54 0,zm 55 3,zx 56 (.sub 2 (.tmp 54) (some (.tmp 55)) none),zn (.clr 2 [.int .i64 0,.int .i64 0] (.tmp 56))]) (.ref 6)
def T26n8:XC:=.seq (.seq (.ops [zx 5 (.mov (.const (.int .i64 1)))]) (.blk 2 (.loop (.ref 5)))) (.ref 7)
def T26n9:XC:=.seq (.ops [zm 26 0,zm 27 3,zx 28 (.sub 2 (.tmp 26) (some (.tmp 27)) none),zm 4 28]) (.ref 8)
def T26n10:XC:=.ops [zm 14 3,zp 15 14,zm 3 15]
def T26n11:XC:=.seq (.blk 1 (.seq (.ops [zm 16 0,zm 17 3,zd 18 2 16 17,zx 19 (.load [.int .i64,.int .i64] true (.tmp 18)),zm 20 0,zm 21 3,zx 22 (.arith .sub .i64 (.tmp 21) (.const (.int .i64 1))),zd 23 2 20 22,zx 24 (.load [.int .i64,.int .i64] true (.tmp 23)),zx 25 (.eqa false [.int .i64,.int .i64] (.tmp 19) (.tmp 24))]) (.cond (.tmp 25) (.ref 9) .skip))) (.ref 10)
def T26n12:XC:=.seq (.seq (.ops [zm 10 3,zm 11 0,ze 12 11,zk 13 .lss 10 12]) (.cond (.tmp 13) .skip (.exit 0))) (.ref 11)
def T26n13:XC:=.seq (.ops [zm 60 0,zm 2 60]) .ret
def T26n14:XC:=.seq (.seq (.ops [zx 3 (.mov (.const (.int .i64 1)))]) (.blk 0 (.loop (.ref 12)))) (.ref 13)
def T26n15:XC:=.seq (.seq (.ops [zm 6 0,ze 7 6,zx 8 (.cmp .lss .i64 (.tmp 7) (.const (.int .i64 2)))]) (.cond (.tmp 8) (.ref 0) .skip)) (.ref 14)
def T26:Nat→XC
 | 0=>T26n0
 | 1=>T26n1
 | 2=>T26n2
 | 3=>T26n3
 | 4=>T26n4
 | 5=>T26n5
 | 6=>T26n6
 | 7=>T26n7
 | 8=>T26n8
 | 9=>T26n9
 | 10=>T26n10
 | 11=>T26n11
 | 12=>T26n12
 | 13=>T26n13
 | 14=>T26n14
 | 15=>T26n15
 | _=>.skip
theorem t26n0:T26 0=T26n0:=rfl
theorem t26n1:T26 1=T26n1:=rfl
theorem t26n2:T26 2=T26n2:=rfl
theorem t26n3:T26 3=T26n3:=rfl
theorem t26n4:T26 4=T26n4:=rfl
theorem t26n5:T26 5=T26n5:=rfl
theorem t26n6:T26 6=T26n6:=rfl
theorem t26n7:T26 7=T26n7:=rfl
theorem t26n8:T26 8=T26n8:=rfl
theorem t26n9:T26 9=T26n9:=rfl
theorem t26n10:T26 10=T26n10:=rfl
theorem t26n11:T26 11=T26n11:=rfl
theorem t26n12:T26 12=T26n12:=rfl
theorem t26n13:T26 13=T26n13:=rfl
theorem t26n14:T26 14=T26n14:=rfl
theorem t26n15:T26 15=T26n15:=rfl
def X26:XC:=.seq (.ops [zx 2 (.mov (.const (.slice none 0 0)))]) (.ref 15)
abbrev K26:List Nat:=[0,2,3,4,5,8,13,25,32,44]
theorem n26:Tryz.f26.ntmps=61:=by kernel_rfl
theorem r26:resT Tryz.f26.results.toList=some [2]:=by kernel_rfl
theorem x26:cmpF Tryz.prog Tryz.f26=some (expand T26 17 X26):=by kernel_rfl
def T42n0:XC:=.seq (.ops [zf 11 1 1,zl 12 11,zx 13 (.buildS 3 1 1 [.int .i64 0] [(0,.tmp 12)]),zc 14 44 [.tmp 13],zm 2 14]) .ret
def T42n1:XC:=.seq (.ops [zx 2 (.mov (.const (.int .u8 0)))]) .ret
def T42n2:XC:=.seq (.seq (.ops [zf 3 0 1,zl 4 3,zx 5 (.cmp .geq .i64 (.tmp 4) (.const (.int .i64 2))),zm 6 5,zg 7 6 true (.fld 0 (.tmp 1)),zg 8 6 true (.load [.int .i64] false (.tmp 7)),zg 9 6 true (.cmp .leq .i64 (.tmp 8) (.const (.int .i64 11))),zx 10 (.pick (.tmp 6) (.tmp 9) (.const (.bool false)))]) (.cond (.tmp 10) (.ref 0) .skip)) (.ref 1)
def T42:Nat→XC
 | 0=>T42n0
 | 1=>T42n1
 | 2=>T42n2
 | _=>.skip
theorem t42n0:T42 0=T42n0:=rfl
theorem t42n1:T42 1=T42n1:=rfl
theorem t42n2:T42 2=T42n2:=rfl
def X42:XC:=.seq (.ops [zx 1 (.box 47 5 (.tmp 0)),zx 2 (.mov (.const (.int .u8 0)))]) (.ref 2)
abbrev K42:List Nat:=[0,1,2,10]
theorem n42:Tryz.f42.ntmps=15:=by kernel_rfl
theorem r42:resT Tryz.f42.results.toList=some [2]:=by kernel_rfl
theorem x42:cmpF Tryz.prog Tryz.f42=some (expand T42 4 X42):=by kernel_rfl
def T43n0:XC:=.seq (.ops [zx 14 (.mkfn (.func 69) [] [.tmp 3,.tmp 5,.tmp 2]),zm 4 14]) .ret
def T43n1:XC:=.seq (.ops [zx 6 (.load [.ptr] false (.tmp 2)),zx 7 (.nilc (.tmp 6)),zf 8 0 7,zx 9 (.load [.slc] false (.tmp 8)),zf 10 0 3,zl 11 10,zd 12 5 9 11,zi 13 12,zx 5 (.alloc 47 [.int .i64 0,.int .i64 0,.int .i64 0,.int .i64 0,.int .i64 0]),zn (.store 5 (.tmp 5) (.tmp 13))]) (.ref 0)
def T43:Nat→XC
 | 0=>T43n0
 | 1=>T43n1
 | _=>.skip
theorem t43n0:T43 0=T43n0:=rfl
theorem t43n1:T43 1=T43n1:=rfl
def X43:XC:=.seq (.ops [zx 2 (.box 61 1 (.tmp 0)),zx 3 (.box 68 2 (.tmp 1)),zx 4 (.mov (.const .nilFunc))]) (.ref 1)
abbrev K43:List Nat:=[0,1,2,3,4,5]
theorem n43:Tryz.f43.ntmps=15:=by kernel_rfl
theorem r43:resT Tryz.f43.results.toList=some [4]:=by kernel_rfl
theorem x43:cmpF Tryz.prog Tryz.f43=some (expand T43 3 X43):=by kernel_rfl
def T44n0:XC:=.ops [zm 11 2,zm 12 4,zx 13 (.shift .shl .u8 (.const (.int .u8 1)) (.tmp 12)),zx 14 (.bits .or .u8 (.tmp 11) (.tmp 13)),zm 2 14]
def T44n1:XC:=.seq (.blk 1 (.seq (.ops [zd 9 1 5 7,zl 10 9,zm 4 10]) (.ref 0))) (.ops [zp 15 7,zm 7 15])
def T44n2:XC:=.seq (.cond (.tmp 8) .skip (.exit 0)) (.ref 1)
def T44n3:XC:=.seq (.ops [zk 8 .lss 7 6]) (.ref 2)
def T44n4:XC:=.seq (.ops [zm 16 2,zm 2 16]) .ret
def T44n5:XC:=.seq (.seq (.ops [zm 5 0,ze 6 5,zx 7 (.mov (.const (.int .i64 0)))]) (.blk 0 (.loop (.ref 3)))) (.ref 4)
def T44:Nat→XC
 | 0=>T44n0
 | 1=>T44n1
 | 2=>T44n2
 | 3=>T44n3
 | 4=>T44n4
 | 5=>T44n5
 | _=>.skip
theorem t44n0:T44 0=T44n0:=rfl
theorem t44n1:T44 1=T44n1:=rfl
theorem t44n2:T44 2=T44n2:=rfl
theorem t44n3:T44 3=T44n3:=rfl
theorem t44n4:T44 4=T44n4:=rfl
theorem t44n5:T44 5=T44n5:=rfl
def X44:XC:=.seq (.ops [zx 2 (.mov (.const (.int .u8 0)))]) (.ref 5)
abbrev K44:List Nat:=[0,2,4,5,6,7,8]
theorem n44:Tryz.f44.ntmps=17:=by kernel_rfl
theorem r44:resT Tryz.f44.results.toList=some [2]:=by kernel_rfl
theorem x44:cmpF Tryz.prog Tryz.f44=some (expand T44 7 X44):=by kernel_rfl
def T69n0:XC:=.ops [zx 18 (.load [.ptr] false (.tmp 3)),zf 19 0 1,zl 20 19,zc 21 21 [.tmp 18,.const (.int .i64 4),.tmp 20]]
def T69n1:XC:=.seq (.seq (.ops [zf 16 1 1,zx 17 (.load [.bool] false (.tmp 16))]) (.cond (.tmp 17) (.ref 0) .skip)) .ret
def T69n2:XC:=.seq (.ops [zx 30 (.load [.ptr] false (.tmp 3)),zf 31 0 1,zl 32 31,zc 33 21 [.tmp 30,.const (.int .i64 3),.tmp 32]]) .ret
def T69n3:XC:=.seq (.ops [zx 43 (.load [.ptr] false (.tmp 3)),zf 44 0 1,zl 45 44,zc 46 21 [.tmp 43,.const (.int .i64 2),.tmp 45]]) .ret
def T69n4:XC:=.ops [zf 56 1 1,zx 57 (.load [.bool] false (.tmp 56)),zx 58 (.not (.tmp 57)),zf 59 1 5,zn (.store 1 (.tmp 59) (.tmp 58))]
def T69n5:XC:=.ops [zx 77 (.load [.ptr] false (.tmp 3)),zf 78 0 1,zl 79 78,zc 80 21 [.tmp 77,.const (.int .i64 6),.tmp 79]]
def T69n6:XC:=.seq (.ops [zm 81 0,zf 82 4 2,zl 83 82,zf 84 1 1,zx 85 (.load [.bool] false (.tmp 84)),zx 86 (.build [.int .i64 0,.bool false] [(0,1,.tmp 83),(1,1,.tmp 85)]),.mk (some 87) none (.callv (.tmp 81) [.tmp 86]),zx 88 (.not (.tmp 87))]) (.cond (.tmp 88) .ret .skip)
def T69n7:XC:=.seq (.ops [zf 89 0 2,zl 90 89,zx 91 (.cmp .eql .i64 (.tmp 90) (.const (.int .i64 13)))]) (.cond (.tmp 91) .ret .skip)
def T69n8:XC:=.seq (.seq (.ops [zf 69 4 2,zl 70 69,zx 71 (.cmp .lss .i64 (.tmp 70) (.const (.int .i64 0))),zm 72 71,zg 73 72 false (.fld 4 (.tmp 2)),zg 74 72 false (.load [.int .i64] false (.tmp 73)),zg 75 72 false (.cmp .gtr .i64 (.tmp 74) (.const (.int .i64 1024))),zx 76 (.pick (.tmp 72) (.const (.bool true)) (.tmp 75))]) (.cond (.tmp 76) (.ref 5) (.ref 6))) (.ref 7)
def T69n9:XC:=.seq (.ops [zf 61 0 2,zl 62 61,zx 63 (.cmp .geq .i64 (.tmp 62) (.const (.int .i64 13))),zm 64 63,zg 65 64 true (.fld 0 (.tmp 2)),zg 66 64 true (.load [.int .i64] false (.tmp 65)),zg 67 64 true (.cmp .leq .i64 (.tmp 66) (.const (.int .i64 16))),zx 68 (.pick (.tmp 64) (.tmp 67) (.const (.bool false))),zm 60 68]) (.cond (.tmp 60) (.ref 8) .skip)
def T69n10:XC:=.seq (.ops [zf 48 0 2,zl 49 48,zx 50 (.cmp .eql .i64 (.tmp 49) (.const (.int .i64 17))),zm 51 50,zg 52 51 false (.fld 0 (.tmp 2)),zg 53 51 false (.load [.int .i64] false (.tmp 52)),zg 54 51 false (.cmp .eql .i64 (.tmp 53) (.const (.int .i64 18))),zx 55 (.pick (.tmp 51) (.const (.bool true)) (.tmp 54)),zm 47 55]) (.cond (.tmp 47) (.ref 4) (.ref 9))
def T69n11:XC:=.seq (.ops [zf 35 0 2,zl 36 35,zx 37 (.cmp .eql .i64 (.tmp 36) (.const (.int .i64 18))),zm 38 37,zg 39 38 true (.fld 1 (.tmp 1)),zg 40 38 true (.load [.bool] false (.tmp 39)),zg 41 38 true (.not (.tmp 40)),zx 42 (.pick (.tmp 38) (.tmp 41) (.const (.bool false))),zm 34 42]) (.cond (.tmp 34) (.ref 3) (.ref 10))
def T69n12:XC:=.seq (.ops [zf 23 0 2,zl 24 23,zx 25 (.cmp .eql .i64 (.tmp 24) (.const (.int .i64 17))),zm 26 25,zg 27 26 true (.fld 1 (.tmp 1)),zg 28 26 true (.load [.bool] false (.tmp 27)),zx 29 (.pick (.tmp 26) (.tmp 28) (.const (.bool false))),zm 22 29]) (.cond (.tmp 22) (.ref 2) (.ref 11))
def T69n13:XC:=.ops [zm 92 0,zx 93 (.load [.int .i64,.bool] true (.tmp 5)),.mk (some 94) none (.callv (.tmp 92) [.tmp 93])]
def T69n14:XC:=.seq (.blk 0 (.seq (.ops [zf 13 0 2,zl 14 13,zx 15 (.cmp .eql .i64 (.tmp 14) (.const (.int .i64 1))),zm 12 15]) (.cond (.tmp 12) (.ref 1) (.ref 12)))) (.ref 13)
def T69:Nat→XC
 | 0=>T69n0
 | 1=>T69n1
 | 2=>T69n2
 | 3=>T69n3
 | 4=>T69n4
 | 5=>T69n5
 | 6=>T69n6
 | 7=>T69n7
 | 8=>T69n8
 | 9=>T69n9
 | 10=>T69n10
 | 11=>T69n11
 | 12=>T69n12
 | 13=>T69n13
 | 14=>T69n14
 | _=>.skip
theorem t69n0:T69 0=T69n0:=rfl
theorem t69n1:T69 1=T69n1:=rfl
theorem t69n2:T69 2=T69n2:=rfl
theorem t69n3:T69 3=T69n3:=rfl
theorem t69n4:T69 4=T69n4:=rfl
theorem t69n5:T69 5=T69n5:=rfl
theorem t69n6:T69 6=T69n6:=rfl
theorem t69n7:T69 7=T69n7:=rfl
theorem t69n8:T69 8=T69n8:=rfl
theorem t69n9:T69 9=T69n9:=rfl
theorem t69n10:T69 10=T69n10:=rfl
theorem t69n11:T69 11=T69n11:=rfl
theorem t69n12:T69 12=T69n12:=rfl
theorem t69n13:T69 13=T69n13:=rfl
theorem t69n14:T69 14=T69n14:=rfl
def X69:XC:=.seq (.ops [zf 6 0 1,zl 7 6,zp 8 7,zf 9 1 1,zx 10 (.load [.bool] false (.tmp 9)),zx 11 (.build [.int .i64 0,.bool false] [(0,1,.tmp 8),(1,1,.tmp 10)]),zx 5 (.alloc 68 [.int .i64 0,.bool false]),zn (.store 2 (.tmp 5) (.tmp 11))]) (.ref 14)
abbrev K69:List Nat:=[0,1,2,3,5,12,17,22,34,47,60,76,88,91]
theorem n69:Tryz.f69.ntmps=95:=by kernel_rfl
theorem r69:resT Tryz.f69.results.toList=some []:=by kernel_rfl
theorem x69:cmpF Tryz.prog Tryz.f69=some (expand T69 16 X69):=by kernel_rfl
theorem n149:Tryz.f149.ntmps=17:=by kernel_rfl
attribute [go_sem] t7n0 t7n1 t7n2 t7n3 t7n4 t7n5 t7n6 t7n7 t7n8 t7n9 t7n10 t7n11 t7n12 t7n13 t7n14 t7n15 t7n16 t7n17 t7n18 t7n19 t7n20 T7n0 T7n1 T7n2 T7n3 T7n4 T7n5 T7n6 T7n7 T7n8 T7n9 T7n10 T7n11 T7n12 T7n13 T7n14 T7n15 T7n16 T7n17 T7n18 T7n19 T7n20 X7
attribute [go_sem] t19n0 t19n1 t19n2 t19n3 t19n4 t19n5 t19n6 t19n7 t19n8 t19n9 t19n10 t19n11 t19n12 t19n13 t19n14 t19n15 t19n16 t19n17 t19n18 t19n19 T19n0 T19n1 T19n2 T19n3 T19n4 T19n5 T19n6 T19n7 T19n8 T19n9 T19n10 T19n11 T19n12 T19n13 T19n14 T19n15 T19n16 T19n17 T19n18 T19n19 X19
attribute [go_sem] t20n0 t20n1 t20n2 t20n3 t20n4 t20n5 t20n6 T20n0 T20n1 T20n2 T20n3 T20n4 T20n5 T20n6 X20
attribute [go_sem] t26n0 t26n1 t26n2 t26n3 t26n4 t26n5 t26n6 t26n7 t26n8 t26n9 t26n10 t26n11 t26n12 t26n13 t26n14 t26n15 T26n0 T26n1 T26n2 T26n3 T26n4 T26n5 T26n6 T26n7 T26n8 T26n9 T26n10 T26n11 T26n12 T26n13 T26n14 T26n15 X26
attribute [go_sem] t42n0 t42n1 t42n2 T42n0 T42n1 T42n2 X42
attribute [go_sem] t43n0 t43n1 T43n0 T43n1 X43
attribute [go_sem] t44n0 t44n1 t44n2 t44n3 t44n4 t44n5 T44n0 T44n1 T44n2 T44n3 T44n4 T44n5 X44
attribute [go_sem] t69n0 t69n1 t69n2 t69n3 t69n4 t69n5 t69n6 t69n7 t69n8 t69n9 t69n10 t69n11 t69n12 t69n13 t69n14 T69n0 T69n1 T69n2 T69n3 T69n4 T69n5 T69n6 T69n7 T69n8 T69n9 T69n10 T69n11 T69n12 T69n13 T69n14 X69
attribute [go_sem] X21
end Go.Proofs.YtgghmmjoplddbaaGreatDoor
