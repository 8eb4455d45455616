/- Printed by program: the small code of functions, and that it is theirs. -/
import Derived.Test.YtgghmmjoplddbaaGreatDoorSxStill
import Derived.Test.YtgghmmjoplddbaaGreatDoorProg
import Derived.KernelRfl
set_option linter.unusedSimpArgs false
set_option linter.unusedVariables false
set_option linter.unnecessarySimpa false
namespace Go.Proofs.YtgghmmjoplddbaaGreatDoor
open Go Go.Sx
set_option maxRecDepth 100000
def T5 (n:Nat):XC:=lkT n [
zs [zm 25 3,zm 2 25] .ret,
zs [zm 45 3,zm 2 45] .ret,
zs [zv 2 (.bool false)] .ret,
zs [zm 68 8,zK 69 .neq 68 0,zm 70 69,zh 71 70 false 10,zG 72 70 false .neq 71 0,zO 73 70 72,zm 74 73,zg 75 74 false (.load [.slc,.int .u64,.int .u64,.int .u64,.int .u64,.int .u64,.int .u64,.int .u64,.int .u64,.int .i64,.int .i64,.int .i64,.int .i64] true (.t 4)),zg 76 74 false (.load [.slc,.int .u64,.int .u64,.int .u64,.int .u64,.int .u64,.int .u64,.int .u64,.int .u64,.int .i64,.int .i64,.int .i64,.int .i64] true (.t 9)),.mk (some 77) (some (74,false)) (.call 17 [.t 75,.t 76]),zg 78 74 false (.not (.t 77)),zO 79 74 78] (zw 79 (.ref 2) .skip),
zs [zm 58 7,zf 59 1 1,zx 60 (.load [.int .u64,.int .u64,.int .u64,.int .u64,.int .u64,.int .u64,.int .u64,.int .u64] true (.t 59)),zf 61 10 1,zL 62 [.slc] 61,zf 63 11 1,zl 64 63,zc 65 15 [.t 58,.t 60,.i 0,.t 62,.t 64],zm 57 65,zy 66 57 0,zy 67 57 1,zx 9 (.alloc 53 [.slice none 0 0,.int .u64 0,.int .u64 0,.int .u64 0,.int .u64 0,.int .u64 0,.int .u64 0,.int .u64 0,.int .u64 0,.int .i64 0,.int .i64 0,.int .i64 0,.int .i64 0]),zS 13 9 66,zm 10 67] (.ref 3),
.ops [zm 48 6,zp 49 48,zm 6 49],
.seq (.blk 1 (zs [zm 51 6,zf 52 0 1,zL 53 [.slc] 52,zc 54 16 [.t 51,.t 53],zm 50 54,zy 55 50 0,zy 56 50 1,zm 7 55,zm 8 56] (.ref 4))) (.ref 5),
.seq (zs [zm 46 6,zK 47 .lss 46 5] (zw 47 .skip (.exit 0))) (.ref 6),
zs [zm 80 3,zm 2 80] .ret,
.seq (zs [zv 6 (.int .i64 0)] (.blk 0 (.loop (.ref 7)))) (.ref 8),
.seq (zs [zm 38 5,zK 39 .neq 38 0,zm 40 39,zg 41 40 false (.fld 12 (.t 4)),zg 42 40 false (.load [.int .i64] false (.t 41)),zG 43 40 false .eql 42 190,zO 44 40 43] (zw 44 (.ref 1) .skip)) (.ref 9),
zs [zf 27 0 1,zL 28 [.slc] 27,zf 29 1 1,zx 30 (.load [.int .u64,.int .u64,.int .u64,.int .u64,.int .u64,.int .u64,.int .u64,.int .u64] true (.t 29)),zf 31 10 1,zL 32 [.slc] 31,zf 33 11 1,zl 34 33,zc 35 15 [.t 28,.t 30,.i 0,.t 32,.t 34],zm 26 35,zy 36 26 0,zy 37 26 1,zx 4 (.alloc 53 [.slice none 0 0,.int .u64 0,.int .u64 0,.int .u64 0,.int .u64 0,.int .u64 0,.int .u64 0,.int .u64 0,.int .u64 0,.int .i64 0,.int .i64 0,.int .i64 0,.int .i64 0]),zS 13 4 36,zm 5 37] (.ref 10),
.seq (zs [zx 12 (.load [.slc,.int .u64,.int .u64,.int .u64,.int .u64,.int .u64,.int .u64,.int .u64,.int .u64,.int .i64,.slc,.int .i64] true (.t 1)),zc 13 14 [.t 12],zK 14 .gtr 13 0,zm 15 14,zg 16 15 false (.fld 0 (.t 1)),zg 17 15 false (.load [.slc] false (.t 16)),zg 18 15 false (.lenS (.t 17)),zG 19 15 false .gtr 18 100,zO 20 15 19,zm 21 20,zh 22 21 false 3,zg 23 21 false (.not (.t 22)),zO 24 21 23] (zw 24 (.ref 0) .skip)) (.ref 11),
zs [zc 11 13 [],zm 3 11] (.ref 12)]
def X5:XC:=zs [zx 1 (.box 50 12 (.t 0)),zv 2 (.bool false)] (.ref 13)
abbrev K5:List Nat:=[0,1,2,3,4,5,6,7,8,9,10,24,44,47,79]
theorem n5:Tryz.f5.ntmps=81:=by kernel_rfl
theorem r5:resT Tryz.f5.results.toList=some [2]:=by kernel_rfl
theorem x5:cmpF Tryz.prog Tryz.f5=some (expand T5 15 X5):=by kernel_rfl
def T14 (n:Nat):XC:=lkT n [
zs [zv 2 (.int .i64 1)] .ret,
zs [zv 2 (.int .i64 0)] .ret,
.seq (zs [zf 3 10 1,zL 4 [.slc] 3,ze 5 4,zK 6 .gtr 5 5000,zm 7 6,zg 8 7 false (.fld 0 (.t 1)),zg 9 7 false (.load [.slc] false (.t 8)),zg 10 7 false (.lenS (.t 9)),zG 11 7 false .gtr 10 2000,zO 12 7 11,zm 13 12,zg 14 13 false (.fld 11 (.t 1)),zg 15 13 false (.load [.int .i64] false (.t 14)),zG 16 13 false .gtr 15 5000,zh 17 13 false 16,zg 18 17 true (.fld 11 (.t 1)),zg 19 17 true (.load [.int .i64] false (.t 18)),zG 20 17 true .leq 19 1048576,zg 21 13 false (.pick (.t 17) (.t 20) (.const (.bool false))),zO 22 13 21] (zw 22 (.ref 0) .skip)) (.ref 1)]
def X14:XC:=zs [zx 1 (.box 50 12 (.t 0)),zv 2 (.int .i64 0)] (.ref 2)
abbrev K14:List Nat:=[0,1,2,22]
theorem n14:Tryz.f14.ntmps=23:=by kernel_rfl
theorem r14:resT Tryz.f14.results.toList=some [2]:=by kernel_rfl
theorem x14:cmpF Tryz.prog Tryz.f14=some (expand T14 4 X14):=by kernel_rfl
def T15 (n:Nat):XC:=lkT n [
zs [zx 25 (.build [.slice none 0 0,.int .u64 0,.int .u64 0,.int .u64 0,.int .u64 0,.int .u64 0,.int .u64 0,.int .u64 0,.int .u64 0,.int .i64 0,.int .i64 0,.int .i64 0,.int .i64 0] []),zm 26 13,zS 13 10 25,zm 11 26] .ret,
.blk 0 (.rng (.t 28) [29] .skip (.blk 1 .skip)),
zs [zm 30 12,zx 31 (.nilc (.t 30)),zf 32 1 31,zx 33 (.load [.slc,.int .u64,.int .u64,.int .u64,.int .u64,.int .u64,.int .u64,.int .u64,.int .u64,.int .i64,.int .i64,.int .i64,.int .i64] true (.t 32)),zS 13 10 33,zv 11 (.int .i64 0)] .ret,
.seq (zs [zm 27 12,zc 28 34 [.t 27]] (.ref 1)) (.ref 2),
.seq (zs [zm 23 13,zK 24 .neq 23 0] (zw 24 (.ref 0) .skip)) (.ref 3),
zs [zm 15 0,zx 16 (.load [.int .u64,.int .u64,.int .u64,.int .u64,.int .u64,.int .u64,.int .u64,.int .u64] true (.t 6)),zm 17 2,zm 18 3,zm 19 4,zc 20 33 [.t 15,.t 16,.t 17,.t 18,.t 19],zm 14 20,zy 21 14 0,zy 22 14 1,zm 12 21,zm 13 22] (.ref 4)]
def X15:XC:=zs [zx 6 (.box 24 8 (.t 1)),zx 10 (.alloc 53 [.slice none 0 0,.int .u64 0,.int .u64 0,.int .u64 0,.int .u64 0,.int .u64 0,.int .u64 0,.int .u64 0,.int .u64 0,.int .i64 0,.int .i64 0,.int .i64 0,.int .i64 0]),zv 11 (.int .i64 0)] (.ref 5)
abbrev K15:List Nat:=[0,1,2,3,4,6,10,11,12,13,24,28]
theorem n15:Tryz.f15.ntmps=34:=by kernel_rfl
theorem r15:rvOf Tryz.prog Tryz.f15.results.toList=some [RV.cell 10 13 true,RV.tmp 11]:=by kernel_rfl
theorem x15:cmpF Tryz.prog Tryz.f15=some (expand T15 7 X15):=by kernel_rfl
def T17 (n:Nat):XC:=lkT n [
zs [zv 4 (.bool false)] .ret,
zs [zv 4 (.bool false)] .ret,
zs [zf 47 0 2,zL 48 [.slc] 47,zm 49 5,zd 50 1 48 49,zL 51 [.int .u64] 50,zf 52 0 3,zL 53 [.slc] 52,zm 54 5,zd 55 1 53 54,zL 56 [.int .u64] 55,zx 57 (.cmp .neq .u64 (.t 51) (.t 56))] (zw 57 (.ref 1) .skip),
.seq (.blk 1 (zs [zm 46 44,zm 5 46] (.ref 2))) (.ops [zp 58 44,zm 44 58]),
.seq (zw 45 .skip (.exit 0)) (.ref 3),
zs [zk 45 .lss 44 43] (.ref 4),
zs [zv 4 (.bool true)] .ret,
.seq (zs [zf 41 0 2,zL 42 [.slc] 41,ze 43 42,zv 44 (.int .i64 0)] (.blk 0 (.loop (.ref 5)))) (.ref 6),
.seq (zs [zf 6 0 2,zL 7 [.slc] 6,ze 8 7,zf 9 0 3,zL 10 [.slc] 9,ze 11 10,zk 12 .neq 8 11,zm 13 12,zg 14 13 false (.fld 1 (.t 2)),zg 15 13 false (.load [.int .u64,.int .u64,.int .u64,.int .u64,.int .u64,.int .u64,.int .u64,.int .u64] true (.t 14)),zg 16 13 false (.fld 1 (.t 3)),zg 17 13 false (.load [.int .u64,.int .u64,.int .u64,.int .u64,.int .u64,.int .u64,.int .u64,.int .u64] true (.t 16)),zg 18 13 false (.eqa true [.int .u64,.int .u64,.int .u64,.int .u64,.int .u64,.int .u64,.int .u64,.int .u64] (.t 15) (.t 17)),zO 19 13 18,zm 20 19,zg 21 20 false (.fld 11 (.t 2)),zg 22 20 false (.load [.int .i64] false (.t 21)),zg 23 20 false (.fld 11 (.t 3)),zg 24 20 false (.load [.int .i64] false (.t 23)),zg 25 20 false (.cmp .neq .i64 (.t 22) (.t 24)),zO 26 20 25,zm 27 26,zg 28 27 false (.fld 12 (.t 2)),zg 29 27 false (.load [.int .i64] false (.t 28)),zg 30 27 false (.fld 12 (.t 3)),zg 31 27 false (.load [.int .i64] false (.t 30)),zg 32 27 false (.cmp .neq .i64 (.t 29) (.t 31)),zO 33 27 32,zm 34 33,zg 35 34 false (.fld 10 (.t 3)),zg 36 34 false (.load [.int .i64] false (.t 35)),zg 37 34 false (.fld 10 (.t 2)),zg 38 34 false (.load [.int .i64] false (.t 37)),zg 39 34 false (.cmp .lss .i64 (.t 36) (.t 38)),zO 40 34 39] (zw 40 (.ref 0) .skip)) (.ref 7)]
def X17:XC:=zs [zx 2 (.box 53 13 (.t 0)),zx 3 (.box 53 13 (.t 1)),zv 4 (.bool false)] (.ref 8)
abbrev K17:List Nat:=[0,1,2,3,4,5,40,43,44,45,57]
theorem n17:Tryz.f17.ntmps=59:=by kernel_rfl
theorem r17:resT Tryz.f17.results.toList=some [4]:=by kernel_rfl
theorem x17:cmpF Tryz.prog Tryz.f17=some (expand T17 10 X17):=by kernel_rfl
def T33 (n:Nat):XC:=lkT n [
zs [zv 10 (.pointer none),zv 11 (.int .i64 2)] .ret,
zs [zm 36 0,zm 37 3,zm 40 2,zm 41 4,zx 39 (.load [.int .u64,.int .u64,.int .u64,.int .u64,.int .u64,.int .u64,.int .u64,.int .u64] true (.t 6)),zc 38 54 [.t 37],.mk none none (.still 39 (.load [.int .u64,.int .u64,.int .u64,.int .u64,.int .u64,.int .u64,.int .u64,.int .u64] true (.t 6))),zx 42 (.build [.slice none 0 0,.int .u64 0,.int .u64 0,.int .u64 0,.int .u64 0,.int .u64 0,.int .u64 0,.int .u64 0,.int .u64 0,.int .i64 0,.int .i64 0,.int .i64 0,.int .i64 0] [(0,1,.t 38),(1,8,.t 39),(9,1,.t 40),(10,1,.t 41)]),zx 43 (.build [.slice none 0 0,.slice none 0 0,.int .u64 0,.int .u64 0,.int .u64 0,.int .u64 0,.int .u64 0,.int .u64 0,.int .u64 0,.int .u64 0,.int .i64 0,.int .i64 0,.int .i64 0,.int .i64 0,.slice none 0 0,.int .u64 0,.int .u64 0,.int .u64 0,.int .u64 0,.int .u64 0,.int .u64 0,.int .u64 0,.int .u64 0,.int .i64 0,.int .i64 0,.int .i64 0,.int .i64 0,.bool false,.bool false] [(0,1,.t 36),(1,13,.t 42)]),zx 44 (.box 92 29 (.t 43)),zm 10 44,zv 11 (.int .i64 0)] .ret,
.seq (zs [zm 12 0,ze 13 12,zK 14 .gtr 13 1024,zm 15 14,zh 16 15 false 2,zG 17 15 false .lss 16 0,zO 18 15 17,zm 19 18,zh 20 19 false 2,zG 21 19 false .gtr 20 1024,zO 22 19 21,zm 23 22,zh 24 23 false 3,zg 25 23 false (.lenS (.t 24)),zG 26 23 false .gtr 25 4096,zO 27 23 26,zm 28 27,zh 29 28 false 4,zG 30 28 false .lss 29 0,zO 31 28 30,zm 32 31,zh 33 32 false 4,zG 34 32 false .gtr 33 1048576,zO 35 32 34] (zw 35 (.ref 0) .skip)) (.ref 1)]
def X33:XC:=zs [zx 6 (.box 24 8 (.t 1)),zv 10 (.pointer none),zv 11 (.int .i64 0)] (.ref 2)
abbrev K33:List Nat:=[0,1,2,3,4,6,10,11,35]
theorem n33:Tryz.f33.ntmps=45:=by kernel_rfl
theorem r33:resT Tryz.f33.results.toList=some [10,11]:=by kernel_rfl
theorem x33:cmpF Tryz.prog Tryz.f33=some (expand T33 4 X33):=by kernel_rfl
def T34 (n:Nat):XC:=lkT n [
zs [zx 3 (.mkfn (.func 55) [] [.t 1]),zm 2 3] .ret]
def X34:XC:=zs [zx 1 (.box 85 1 (.t 0)),zv 2 .nilFunc] (.ref 0)
abbrev K34:List Nat:=[0,1,2]
theorem n34:Tryz.f34.ntmps=4:=by kernel_rfl
theorem r34:resT Tryz.f34.results.toList=some [2]:=by kernel_rfl
theorem x34:cmpF Tryz.prog Tryz.f34=some (expand T34 2 X34):=by kernel_rfl
def T54 (n:Nat):XC:=lkT n [
zs [zv 2 (.slice none 0 0)] .ret,
zs [zx 5 (.buildS 23 0 1 [.int .u64 0] []),zm 6 0,zx 7 (.app 23 1 8 (.t 5) (.t 6)),zm 2 7] .ret,
.seq (zs [zm 3 0,zx 4 (.isnil NK.s false (.t 3))] (zw 4 (.ref 0) .skip)) (.ref 1)]
def X54:XC:=zs [zv 2 (.slice none 0 0)] (.ref 2)
abbrev K54:List Nat:=[0,2,4]
theorem n54:Tryz.f54.ntmps=8:=by kernel_rfl
theorem r54:resT Tryz.f54.results.toList=some [2]:=by kernel_rfl
theorem x54:cmpF Tryz.prog Tryz.f54=some (expand T54 4 X54):=by kernel_rfl
def T55 (n:Nat):XC:=lkT n [
zs [zL 29 [.ptr] 1,zc 30 56 [.t 29,.i 0]] (.exit 0),
zs [zL 38 [.ptr] 1,zc 39 56 [.t 38,.i 190]] (.exit 0),
zs [zL 32 [.ptr] 1,zx 33 (.nilc (.t 32)),zf 34 1 33,zf 35 10 34,zl 36 35,zK 37 .eql 36 0,zm 31 37] (zw 31 (.ref 1) .skip),
zs [zm 15 3,zL 16 [.ptr] 1,zx 17 (.nilc (.t 16)),zf 18 0 17,zL 19 [.slc] 18,ze 20 19,zk 21 .geq 15 20,zm 22 21,zg 23 22 true (.load [.ptr] false (.t 1)),zg 24 22 true (.nilc (.t 23)),zg 25 22 true (.fld 27 (.t 24)),zg 26 22 true (.load [.bool] false (.t 25)),zg 27 22 true (.not (.t 26)),zA 28 22 27,zm 14 28] (zw 14 (.ref 0) (.ref 2)),
zs [zm 52 0,zm 53 3,.mk (some 54) none (.callv (.t 52) [.t 53]),zx 55 (.not (.t 54))] (zw 55 .ret .skip),
zs [zL 49 [.ptr] 1,zm 50 3,zc 51 57 [.t 49,.t 50]] (.ref 4),
zs [zL 40 [.ptr] 1,zx 41 (.nilc (.t 40)),zf 42 1 41,zf 43 10 42,zl 44 43,zx 45 (.arith .sub .i64 (.t 44) (.i 1)),zx 46 (.nilc (.t 40)),zf 47 1 46,zf 48 10 47,zS 1 48 45] (.ref 5),
.seq (.blk 2 (zs [zL 10 [.ptr] 1,zx 11 (.nilc (.t 10)),zf 12 28 11,zL 13 [.bool] 12,zm 9 13] (zw 9 (.exit 0) (.ref 3)))) (.ref 6),
.blk 1 (zs [zL 4 [.ptr] 1,zx 5 (.nilc (.t 4)),zf 6 1 5,zf 7 9 6,zl 8 7,zm 3 8] (.ref 7))]
def X55:XC:=.scp (.seq (.lab) (.blk 0 (.loop (.ref 8))))
abbrev K55:List Nat:=[0,1,3,9,14,31,55]
theorem n55:Tryz.f55.ntmps=56:=by kernel_rfl
theorem r55:resT Tryz.f55.results.toList=some []:=by kernel_rfl
theorem x55:cmpF Tryz.prog Tryz.f55=some (expand T55 10 X55):=by kernel_rfl
def T56 (n:Nat):XC:=lkT n [
.ops [zm 12 0,zm 13 0,zm 14 0,zm 15 0,zx 16 (.nilc (.t 15)),zf 17 14 16,zf 18 0 17,zL 19 [.slc] 18,zm 20 0,zx 21 (.nilc (.t 20)),zf 22 14 21,zf 23 1 22,zx 24 (.load [.int .u64,.int .u64,.int .u64,.int .u64,.int .u64,.int .u64,.int .u64,.int .u64] true (.t 23)),zm 25 0,zx 26 (.nilc (.t 25)),zf 27 14 26,zf 28 9 27,zl 29 28,zx 30 (.nilc (.t 12)),zf 31 1 30,zf 32 0 31,zS 1 32 19,zx 33 (.nilc (.t 13)),zf 34 1 33,zf 35 1 34,zS 8 35 24,zx 36 (.nilc (.t 14)),zf 37 1 36,zf 38 9 37,zS 1 38 29],
.ops [zm 39 0,zm 40 0,zm 41 1,zx 42 (.nilc (.t 39)),zf 43 1 42,zf 44 12 43,zS 1 44 41,zx 45 (.nilc (.t 40)),zf 46 28 45,zn (.store 1 (.t 46) (.const (.bool true)))]]
def X56:XC:=.seq (zs [zm 4 0,zx 5 (.nilc (.t 4)),zf 6 27 5,zL 7 [.bool] 6,zm 8 7,zh 9 8 true 1,zG 10 8 true .neq 9 0,zA 11 8 10] (zw 11 (.ref 0) .skip)) (.ref 1)
abbrev K56:List Nat:=[0,1,11]
theorem n56:Tryz.f56.ntmps=47:=by kernel_rfl
theorem r56:resT Tryz.f56.results.toList=some []:=by kernel_rfl
theorem x56:cmpF Tryz.prog Tryz.f56=some (expand T56 3 X56):=by kernel_rfl
def T57 (n:Nat):XC:=lkT n [
zs [zm 15 0,zc 16 56 [.t 15,.i 111]] .ret,
zw 61 (.ops [zm 62 0,zc 63 56 [.t 62,.i 111]]) .skip,
zs [zm 54 7,zx 55 (.not (.t 54)),zm 56 55,zh 57 56 false 6,zg 58 56 false (.load [.int .i64,.int .i64,.int .i64,.int .u64,.int .u64] true (.t 4)),.mk (some 59) (some (56,false)) (.callv (.t 57) [.t 58]),zg 60 56 false (.not (.t 59)),zO 61 56 60] (.ref 1),
zs [zm 48 5,zf 49 0 4,zl 50 49,zx 51 (.lkup (.int .i64) .nilFunc true (.t 48) (.t 50)),zm 47 51,zy 52 47 0,zy 53 47 1,zm 6 52,zm 7 53] (.ref 2),
zs [.mk (some 31) none (.k .mkmap),zm 32 0,zx 33 (.mkfn (.func 81) [.t 32] []),zn (.mupd (.int .i64) (.t 31) (.i 1) (.t 33)),zm 34 0,zx 35 (.mkfn (.func 82) [.t 34] []),zn (.mupd (.int .i64) (.t 31) (.i 2) (.t 35)),zm 36 0,zx 37 (.mkfn (.func 83) [.t 36] []),zn (.mupd (.int .i64) (.t 31) (.i 3) (.t 37)),zm 38 0,zx 39 (.mkfn (.func 84) [.t 38] []),zn (.mupd (.int .i64) (.t 31) (.i 4) (.t 39)),zm 40 0,zx 41 (.mkfn (.func 85) [.t 40] []),zn (.mupd (.int .i64) (.t 31) (.i 5) (.t 41)),zm 42 0,zx 43 (.mkfn (.func 86) [.t 42] []),zn (.mupd (.int .i64) (.t 31) (.i 6) (.t 43)),zm 44 0,zx 45 (.mkfn (.func 87) [.t 44] []),zn (.mupd (.int .i64) (.t 31) (.i 7) (.t 45)),zm 46 31,zm 5 46] (.ref 3)]
def X57:XC:=.seq (zs [zm 8 1,zm 9 0,zx 10 (.nilc (.t 9)),zf 11 0 10,zL 12 [.slc] 11,ze 13 12,zk 14 .geq 8 13] (zw 14 (.ref 0) .skip)) (.seq (.alt 16 (.seq (zm 17 0) 0 (.seq (zx 18 (.nilc (.t 17))) 1 (.seq (zf 19 0 18) 2 (.seq (zm 21 1) 4 (.seq (zm 24 0) 7 (.seq (zx 25 (.nilc (.t 24))) 8 (.seq (zf 26 1 25) 9 (.seq (zf 27 1 26) 10 (.seq (zm 29 1) 12 (.seq (zL 20 [.slc] 19) 3 (.seq (zd 22 5 20 21) 5 (.seq (zi 23 22) 6 (.seq (zx 28 (.load [.int .u64,.int .u64,.int .u64,.int .u64,.int .u64,.int .u64,.int .u64,.int .u64] true (.t 27))) 11 (.alt (.seq (zc 30 27 [.t 23,.t 28,.t 29]) 13 (.seq (zx 4 (.alloc 39 [.int .i64 0,.int .i64 0,.int .i64 0,.int .u64 0,.int .u64 0])) 14 (.seq (zS 5 4 30) 15 .done))) (.seq (zx 4 (.alloc 39 [.int .i64 0,.int .i64 0,.int .i64 0,.int .u64 0,.int .u64 0])) 14 (.seq (zc 30 27 [.t 23,.t 28,.t 29]) 13 (.seq (zS 5 4 30) 15 .done)))))))))))))))))) (.ref 4))
abbrev K57:List Nat:=[0,1,4,5,6,7,14,17,18,19,20,21,22,23,24,25,26,27,28,29,30,61]
theorem n57:Tryz.f57.ntmps=64:=by kernel_rfl
theorem r57:resT Tryz.f57.results.toList=some []:=by kernel_rfl
theorem x57:cmpF Tryz.prog Tryz.f57=some (expand T57 6 X57):=by kernel_rfl
def T81 (n:Nat):XC:=lkT n [
zs [zm 14 0,zx 15 (.load [.int .i64,.int .i64,.int .i64,.int .u64,.int .u64] true (.t 3)),zc 16 82 [.t 14,.t 15],zm 4 16] .ret,
zs [zm 5 0,zf 6 2 3,zl 7 6,zf 8 3 3,zL 9 [.int .u64] 8,zx 10 (.nilc (.t 5)),zf 11 1 10,zf 12 1 11,zx 13 (.idxA 8 1 (.t 12) (.t 7)),zS 1 13 9] (.ref 0)]
def X81:XC:=zs [zx 3 (.box 39 5 (.t 1)),zv 4 (.bool false)] (.ref 1)
abbrev K81:List Nat:=[0,1,3,4]
theorem n81:Tryz.f81.ntmps=17:=by kernel_rfl
theorem r81:resT Tryz.f81.results.toList=some [4]:=by kernel_rfl
theorem x81:cmpF Tryz.prog Tryz.f81=some (expand T81 3 X81):=by kernel_rfl
def T82 (n:Nat):XC:=lkT n [
zs [zv 4 (.bool true)] .ret,
zs [zm 5 0,zf 6 1 3,zl 7 6,zx 8 (.nilc (.t 5)),zf 9 1 8,zf 10 9 9,zS 1 10 7] (.ref 0)]
def X82:XC:=zs [zx 3 (.box 39 5 (.t 1)),zv 4 (.bool false)] (.ref 1)
abbrev K82:List Nat:=[0,1,3,4]
theorem n82:Tryz.f82.ntmps=11:=by kernel_rfl
theorem r82:resT Tryz.f82.results.toList=some [4]:=by kernel_rfl
theorem x82:cmpF Tryz.prog Tryz.f82=some (expand T82 3 X82):=by kernel_rfl
def T83 (n:Nat):XC:=lkT n [
zs [zv 4 (.bool false)] .ret,
zs [zm 31 0,zx 32 (.load [.int .i64,.int .i64,.int .i64,.int .u64,.int .u64] true (.t 3)),zc 33 82 [.t 31,.t 32],zm 4 33] .ret,
zs [zm 15 0,zf 16 2 3,zl 17 16,zm 18 0,zx 19 (.nilc (.t 18)),zf 20 1 19,zf 21 0 20,zL 22 [.slc] 21,zf 23 4 3,zL 24 [.int .u64] 23,zd 25 1 22 24,zL 26 [.int .u64] 25,zx 27 (.nilc (.t 15)),zf 28 1 27,zf 29 1 28,zx 30 (.idxA 8 1 (.t 29) (.t 17)),zS 1 30 26] (.ref 1),
.seq (zs [zf 5 4 3,zL 6 [.int .u64] 5,zm 7 0,zx 8 (.nilc (.t 7)),zf 9 1 8,zf 10 0 9,zL 11 [.slc] 10,ze 12 11,zx 13 (.conv .u64 (.t 12)),zx 14 (.cmp .geq .u64 (.t 6) (.t 13))] (zw 14 (.ref 0) .skip)) (.ref 2)]
def X83:XC:=zs [zx 3 (.box 39 5 (.t 1)),zv 4 (.bool false)] (.ref 3)
abbrev K83:List Nat:=[0,1,3,4,14]
theorem n83:Tryz.f83.ntmps=34:=by kernel_rfl
theorem r83:resT Tryz.f83.results.toList=some [4]:=by kernel_rfl
theorem x83:cmpF Tryz.prog Tryz.f83=some (expand T83 5 X83):=by kernel_rfl
def T84 (n:Nat):XC:=lkT n [
zs [zv 4 (.bool false)] .ret,
zs [zm 25 0,zx 26 (.load [.int .i64,.int .i64,.int .i64,.int .u64,.int .u64] true (.t 3)),zc 27 82 [.t 25,.t 26],zm 4 27] .ret,
zs [zm 15 0,zx 16 (.nilc (.t 15)),zf 17 1 16,zf 18 0 17,zL 19 [.slc] 18,zf 20 4 3,zL 21 [.int .u64] 20,zf 22 3 3,zL 23 [.int .u64] 22,zd 24 1 19 21,zS 1 24 23] (.ref 1),
.seq (zs [zf 5 4 3,zL 6 [.int .u64] 5,zm 7 0,zx 8 (.nilc (.t 7)),zf 9 1 8,zf 10 0 9,zL 11 [.slc] 10,ze 12 11,zx 13 (.conv .u64 (.t 12)),zx 14 (.cmp .geq .u64 (.t 6) (.t 13))] (zw 14 (.ref 0) .skip)) (.ref 2)]
def X84:XC:=zs [zx 3 (.box 39 5 (.t 1)),zv 4 (.bool false)] (.ref 3)
abbrev K84:List Nat:=[0,1,3,4,14]
theorem n84:Tryz.f84.ntmps=28:=by kernel_rfl
theorem r84:resT Tryz.f84.results.toList=some [4]:=by kernel_rfl
theorem x84:cmpF Tryz.prog Tryz.f84=some (expand T84 5 X84):=by kernel_rfl
def T85 (n:Nat):XC:=lkT n [
zs [zv 4 (.bool false)] .ret,
zs [zv 4 (.bool true)] .ret,
zs [zm 22 0,zm 23 0,zx 24 (.nilc (.t 23)),zf 25 1 24,zf 26 0 25,zL 27 [.slc] 26,zc 28 54 [.t 27],zx 29 (.nilc (.t 22)),zf 30 14 29,zf 31 0 30,zS 1 31 28] (.ref 1),
zs [zm 15 0,zm 16 0,zx 17 (.nilc (.t 16)),zf 18 1 17,zx 19 (.load [.slc,.int .u64,.int .u64,.int .u64,.int .u64,.int .u64,.int .u64,.int .u64,.int .u64,.int .i64,.int .i64,.int .i64,.int .i64] true (.t 18)),zx 20 (.nilc (.t 15)),zf 21 14 20,zS 13 21 19] (.ref 2),
zs [zm 12 0,zx 13 (.load [.int .i64,.int .i64,.int .i64,.int .u64,.int .u64] true (.t 3)),zc 14 82 [.t 12,.t 13]] (.ref 3),
zs [zm 9 0,zx 10 (.nilc (.t 9)),zf 11 27 10,zn (.store 1 (.t 11) (.const (.bool true)))] (.ref 4),
.seq (zs [zm 5 0,zx 6 (.nilc (.t 5)),zf 7 27 6,zL 8 [.bool] 7] (zw 8 (.ref 0) .skip)) (.ref 5)]
def X85:XC:=zs [zx 3 (.box 39 5 (.t 1)),zv 4 (.bool false)] (.ref 6)
abbrev K85:List Nat:=[0,1,3,4,8]
theorem n85:Tryz.f85.ntmps=32:=by kernel_rfl
theorem r85:resT Tryz.f85.results.toList=some [4]:=by kernel_rfl
theorem x85:cmpF Tryz.prog Tryz.f85=some (expand T85 8 X85):=by kernel_rfl
def T86 (n:Nat):XC:=lkT n [
zs [zv 4 (.bool false)] .ret,
zs [zm 22 0,zx 23 (.load [.int .i64,.int .i64,.int .i64,.int .u64,.int .u64] true (.t 3)),zc 24 82 [.t 22,.t 23],zm 4 24] .ret,
zs [zm 13 0,zx 14 (.nilc (.t 13)),zf 15 1 14,zf 16 11 15,zl 17 16,zp 18 17,zx 19 (.nilc (.t 13)),zf 20 1 19,zf 21 11 20,zS 1 21 18] (.ref 1),
zs [zm 10 0,zx 11 (.nilc (.t 10)),zf 12 27 11,zn (.store 1 (.t 12) (.const (.bool false)))] (.ref 2),
.seq (zs [zm 5 0,zx 6 (.nilc (.t 5)),zf 7 27 6,zL 8 [.bool] 7,zx 9 (.not (.t 8))] (zw 9 (.ref 0) .skip)) (.ref 3)]
def X86:XC:=zs [zx 3 (.box 39 5 (.t 1)),zv 4 (.bool false)] (.ref 4)
abbrev K86:List Nat:=[0,1,3,4,9]
theorem n86:Tryz.f86.ntmps=25:=by kernel_rfl
theorem r86:resT Tryz.f86.results.toList=some [4]:=by kernel_rfl
theorem x86:cmpF Tryz.prog Tryz.f86=some (expand T86 6 X86):=by kernel_rfl
def T87 (n:Nat):XC:=lkT n [
zw 9 (.ops [zm 10 0,zc 11 56 [.t 10,.i 0]]) .skip,
zs [zm 12 0,zx 13 (.nilc (.t 12)),zf 14 27 13,zL 15 [.bool] 14,zx 16 (.not (.t 15)),zm 4 16] .ret,
.seq (zs [zm 5 0,zx 6 (.nilc (.t 5)),zf 7 27 6,zL 8 [.bool] 7,zx 9 (.not (.t 8))] (.ref 0)) (.ref 1)]
def X87:XC:=zs [zx 3 (.box 39 5 (.t 1)),zv 4 (.bool false)] (.ref 2)
abbrev K87:List Nat:=[0,1,4,9]
theorem n87:Tryz.f87.ntmps=17:=by kernel_rfl
theorem r87:resT Tryz.f87.results.toList=some [4]:=by kernel_rfl
theorem x87:cmpF Tryz.prog Tryz.f87=some (expand T87 4 X87):=by kernel_rfl
attribute [go_sem] X5 T5
attribute [go_sem] X14 T14
attribute [go_sem] X15 T15
attribute [go_sem] X17 T17
attribute [go_sem] X33 T33
attribute [go_sem] X34 T34
attribute [go_sem] X54 T54
attribute [go_sem] X55 T55
attribute [go_sem] X56 T56
attribute [go_sem] X57 T57
attribute [go_sem] X81 T81
attribute [go_sem] X82 T82
attribute [go_sem] X83 T83
attribute [go_sem] X84 T84
attribute [go_sem] X85 T85
attribute [go_sem] X86 T86
attribute [go_sem] X87 T87
end Go.Proofs.YtgghmmjoplddbaaGreatDoor
