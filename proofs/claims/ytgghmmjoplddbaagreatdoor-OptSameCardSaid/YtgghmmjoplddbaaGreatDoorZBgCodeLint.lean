/- Printed by program: the small code of functions, and that it is theirs. -/
import Derived.Test.YtgghmmjoplddbaaGreatDoorSxStill
import Derived.Test.YtgghmmjoplddbaaGreatDoorProg
import Derived.KernelRfl
set_option linter.unusedSimpArgs false
set_option linter.unusedVariables false
set_option linter.unnecessarySimpa false
namespace Go.Proofs.YtgghmmjoplddbaaGreatDoor
open Go Go.Sx
set_option maxRecDepth 100000
def T7 (n:Nat):XC:=lkT n [
zs [zv 2 (.slice none 0 0),zv 3 (.int .i64 2)] .ret,
.ops [zm 61 4,zm 62 5,zc 63 21 [.t 61,.i 7,.t 62]],
zs [zm 49 11,zm 50 49,zg 51 50 true (.load [.int .i64,.int .i64,.int .i64,.int .i64,.int .i64] true (.t 6)),.mk (some 52) (some (50,true)) (.call 11 [.t 51]),zA 53 50 52,zm 54 53,zg 55 54 true (.load [.int .i64,.int .i64,.int .i64,.int .i64,.int .i64] true (.t 6)),.mk (some 56) (some (54,true)) (.call 20 [.t 55]),zh 57 54 true 10,zg 58 54 true (.bits .andNot .u8 (.t 56) (.t 57)),zg 59 54 true (.cmp .neq .u8 (.t 58) (.const (.int .u8 0))),zA 60 54 59] (zw 60 (.ref 1) .skip),
zs [zm 45 7,zm 46 45,zh 47 46 false 11,zO 48 46 47,zm 7 48] (.ref 2),
zs [zm 35 4,zx 36 (.nilc (.t 35)),zf 37 1 36,zL 38 [.map] 37,zm 39 5,zm 40 9,zx 41 (.build [.int .i64 0,.bool false] [(0,1,.t 39),(1,1,.t 40)]),zx 42 (.lkupA [.int .i64,.bool] (.int .u8 0) true (.t 38) (.t 41)),zm 34 42,zy 43 34 0,zy 44 34 1,zm 10 43,zm 11 44] (.ref 3),
.seq (.blk 3 (zs [zd 32 1 28 30,zL 33 [.bool] 32,zm 9 33] (.ref 4))) (.ops [zp 64 30,zm 30 64]),
.seq (zw 31 .skip (.exit 2)) (.ref 5),
zs [zk 31 .lss 30 29] (.ref 6),
.ops [zm 67 4,zm 68 5,zc 69 21 [.t 67,.i 8,.t 68]],
zs [zm 65 7,zx 66 (.not (.t 65))] (zw 66 (.ref 8) .skip),
.seq (zs [zx 28 (.buildS 4 2 1 [.bool false] [(0,.const (.bool false)),(1,.const (.bool true))]),ze 29 28,zv 30 (.int .i64 0)] (.blk 2 (.loop (.ref 7)))) (.ref 9),
zs [zv 7 (.bool false)] (.ref 10),
.seq (.blk 1 (zs [zm 25 23,zd 26 5 21 23,zi 27 26,zx 6 (.alloc 47 [.int .i64 0,.int .i64 0,.int .i64 0,.int .i64 0,.int .i64 0]),zm 5 25,zS 5 6 27] (.ref 11))) (.ops [zp 70 23,zm 23 70]),
.seq (zw 24 .skip (.exit 0)) (.ref 12),
zs [zk 24 .lss 23 22] (.ref 13),
zs [zm 76 4,zx 77 (.nilc (.t 76)),zf 78 2 77,zL 79 [.slc] 78,zc 80 26 [.t 79],zm 2 80,zv 3 (.int .i64 0)] .ret,
zs [zm 71 4,zx 72 (.nilc (.t 71)),zf 73 2 72,zL 74 [.slc] 73,zc 75 22 [.t 74,.func 23]] (.ref 15),
.seq (zs [zm 21 0,ze 22 21,zv 23 (.int .i64 0)] (.blk 0 (.loop (.ref 14)))) (.ref 16),
zs [zm 19 4,zc 20 19 [.t 19]] (.ref 17),
zs [zm 15 0,.mk (some 16) none (.k .mkmap),zx 17 (.build [.slice none 0 0,.map none,.slice none 0 0] [(0,1,.t 15),(1,1,.t 16)]),zx 18 (.box 64 3 (.t 17)),zm 4 18] (.ref 18),
.seq (zs [zm 12 0,ze 13 12,zK 14 .gtr 13 1024] (zw 14 (.ref 0) .skip)) (.ref 19)]
def X7:XC:=zs [zv 2 (.slice none 0 0),zv 3 (.int .i64 0)] (.ref 20)
abbrev K7:List Nat:=[0,2,3,4,5,6,7,9,10,11,14,21,22,23,24,28,29,30,31,60,66]
theorem n7:Tryz.f7.ntmps=81:=by kernel_rfl
theorem r7:resT Tryz.f7.results.toList=some [2,3]:=by kernel_rfl
theorem x7:cmpF Tryz.prog Tryz.f7=some (expand T7 22 X7):=by kernel_rfl
def T19n9:XC:=.blk 2 (.rng (.tmp 58) [59] (.ops [zx 6 (.alloc 68 [.int .i64 0,.bool false]),zn (.store 2 (.tmp 6) (.tmp 59))]) (.ref 8))
def T19 (n:Nat):XC:=lkT n [
zs [zL 43 [.ptr] 1,zf 44 0 3,zl 45 44,zc 46 21 [.t 43,.i 1,.t 45]] (.exit 1),
.ops [zL 72 [.ptr] 1,zf 73 0 3,zl 74 73,zc 75 21 [.t 72,.i 5,.t 74]],
zw 86 (.ops [zv 7 (.int .u8 255)]) .skip,
.ops [zL 104 [.slc] 2,zx 105 (.load [.int .i64,.bool] true (.t 6)),zx 106 (.buildS 68 1 2 [.int .i64 0,.bool false] [(0,.t 105)]),zx 107 (.app 68 2 16 (.t 104) (.t 106)),zS 1 2 107],
zs [zL 96 [.ptr] 1,zx 97 (.nilc (.t 96)),zf 98 1 97,zL 99 [.map] 98,zx 100 (.load [.int .i64,.bool] true (.t 6)),zm 101 7,zL 102 [.int .u8] 5,zx 103 (.bits .and .u8 (.t 101) (.t 102)),zn (.mupdA [.int .i64,.bool] (.t 99) (.t 100) (.t 103))] (.ref 3),
zs [zm 87 8,zx 88 (.not (.t 87)),zm 89 88,zh 90 89 false 7,zg 91 89 false (.load [.int .u8] false (.t 5)),zg 92 89 false (.bits .and .u8 (.t 90) (.t 91)),zh 93 89 false 7,zg 94 89 false (.cmp .neq .u8 (.t 92) (.t 93)),zO 95 89 94] (zw 95 (.ref 4) .skip),
.seq (zs [zm 85 8,zx 86 (.not (.t 85))] (.ref 2)) (.ref 5),
zs [zL 77 [.ptr] 1,zx 78 (.nilc (.t 77)),zf 79 1 78,zL 80 [.map] 79,zx 81 (.load [.int .i64,.bool] true (.t 6)),zx 82 (.lkupA [.int .i64,.bool] (.int .u8 0) true (.t 80) (.t 81)),zm 76 82,zy 83 76 0,zy 84 76 1,zm 7 83,zm 8 84] (.ref 6),
.blk 3 (.seq (zs [zf 60 1 6,zL 61 [.bool] 60,zm 62 61,zg 63 62 true (.fld 0 (.t 6)),zg 64 62 true (.load [.int .i64] false (.t 63)),zg 65 62 true (.load [.ptr] false (.t 1)),zg 66 62 true (.nilc (.t 65)),zg 67 62 true (.fld 0 (.t 66)),zg 68 62 true (.load [.slc] false (.t 67)),zg 69 62 true (.lenS (.t 68)),zg 70 62 true (.cmp .geq .i64 (.t 64) (.t 69)),zA 71 62 70] (zw 71 (.ref 1) .skip)) (.ref 7)),
T19n9,
zs [zL 56 [.ptr] 1,zx 57 (.load [.int .i64,.bool] true (.t 3)),zc 58 43 [.t 56,.t 57]] (.ref 9),
.seq (zs [zi 40 4,zc 41 11 [.t 40],zx 42 (.not (.t 41))] (zw 42 (.ref 0) .skip)) (.seq (.alt 11 (.seq (zL 47 [.ptr] 1) 0 (.seq (zx 48 (.nilc (.t 47))) 1 (.seq (zf 49 1 48) 2 (.seq (zL 50 [.map] 49) 3 (.seq (zx 51 (.load [.int .i64,.bool] true (.t 3))) 4 (.seq (zx 52 (.lkupA [.int .i64,.bool] (.int .u8 0) false (.t 50) (.t 51))) 5 (.seq (zi 53 4) 6 (.alt (.seq (zc 54 42 [.t 53]) 7 (.seq (.mk none none (.still 47 (.load [.ptr] false (.t 1)))) 0 (.seq (.mk none none (.still 50 (.load [.map] false (.t 49)))) 3 (.seq (.mk none none (.still 51 (.load [.int .i64,.bool] true (.t 3)))) 4 (.seq (.mk none none (.still 52 (.lkupA [.int .i64,.bool] (.int .u8 0) false (.t 50) (.t 51)))) 5 (.seq (zx 55 (.bits .or .u8 (.t 52) (.t 54))) 8 (.seq (zx 5 (.alloc 5 [.int .u8 0])) 9 (.seq (zS 1 5 55) 10 .done)))))))) (.seq (zx 5 (.alloc 5 [.int .u8 0])) 9 (.seq (zc 54 42 [.t 53]) 7 (.seq (.mk none none (.still 47 (.load [.ptr] false (.t 1)))) 0 (.seq (.mk none none (.still 50 (.load [.map] false (.t 49)))) 3 (.seq (.mk none none (.still 51 (.load [.int .i64,.bool] true (.t 3)))) 4 (.seq (.mk none none (.still 52 (.lkupA [.int .i64,.bool] (.int .u8 0) false (.t 50) (.t 51)))) 5 (.seq (zx 55 (.bits .or .u8 (.t 52) (.t 54))) 8 (.seq (zS 1 5 55) 10 .done))))))))))))))))) (.ref 10)),
zs [zL 32 [.ptr] 1,zx 33 (.nilc (.t 32)),zf 34 0 33,zL 35 [.slc] 34,zf 36 0 3,zl 37 36,zd 38 5 35 37,zi 39 38,zx 4 (.alloc 47 [.int .i64 0,.int .i64 0,.int .i64 0,.int .i64 0,.int .i64 0]),zS 5 4 39] (.ref 11),
.seq (zs [zf 24 0 3,zl 25 24,zL 26 [.ptr] 1,zx 27 (.nilc (.t 26)),zf 28 0 27,zL 29 [.slc] 28,ze 30 29,zk 31 .geq 25 30] (zw 31 (.exit 1) .skip)) (.ref 12),
zs [zL 22 [.slc] 2,zx 23 (.sub 2 (.t 22) (some (.i 1)) none),zS 1 2 23] (.ref 13),
.blk 1 (zs [zL 19 [.slc] 2,zx 20 (.idx 2 (.t 19) (.i 0)),zx 21 (.load [.int .i64,.bool] true (.t 20)),zx 3 (.alloc 68 [.int .i64 0,.bool false]),zS 2 3 21] (.ref 14)),
.seq (zs [zL 16 [.slc] 2,ze 17 16,zK 18 .gtr 17 0] (zw 18 .skip (.exit 0))) (.ref 15),
.seq (.lab) (.blk 0 (.loop (.ref 16))),
zs [zL 11 [.ptr] 1,zx 12 (.nilc (.t 11)),zf 13 1 12,zL 14 [.map] 13,zx 15 (.build [.int .i64 0,.bool false] []),zn (.mupdA [.int .i64,.bool] (.t 14) (.t 15) (.const (.int .u8 0)))] (.ref 17),
.scp (zs [zx 9 (.build [.int .i64 0,.bool false] []),zx 10 (.buildS 68 1 2 [.int .i64 0,.bool false] [(0,.t 9)]),zx 2 (.alloc 98 [.slice none 0 0]),zS 1 2 10] (.ref 18))]
def X19:XC:=zs [zx 1 (.box 61 1 (.t 0))] (.ref 19)
abbrev K19:List Nat:=[0,1,2,3,4,5,6,7,8,18,31,42,47,48,49,50,51,52,53,54,55,58,59,71,86,95]
theorem n19:Tryz.f19.ntmps=108:=by kernel_rfl
theorem r19:resT Tryz.f19.results.toList=some []:=by kernel_rfl
theorem x19:cmpF Tryz.prog Tryz.f19=some (expand T19 21 X19):=by kernel_rfl
def T20 (n:Nat):XC:=lkT n [
zs [zf 12 2 1,zl 13 12,zx 14 (.buildS 3 1 1 [.int .i64 0] [(0,.t 13)]),zc 15 44 [.t 14],zm 2 15] .ret,
zs [zf 25 2 1,zl 26 25,zf 27 3 1,zl 28 27,zx 29 (.buildS 3 2 1 [.int .i64 0] [(0,.t 26),(1,.t 28)]),zc 30 44 [.t 29],zm 2 30] .ret,
zs [zf 45 1 1,zl 46 45,zf 47 2 1,zl 48 47,zx 49 (.buildS 3 2 1 [.int .i64 0] [(0,.t 46),(1,.t 48)]),zc 50 44 [.t 49],zm 2 50] .ret,
zs [zf 32 0 1,zl 33 32,zK 34 .eql 33 12,zm 35 34,zg 36 35 false (.fld 0 (.t 1)),zg 37 35 false (.load [.int .i64] false (.t 36)),zG 38 35 false .geq 37 14,zh 39 35 false 38,zg 40 39 true (.fld 0 (.t 1)),zg 41 39 true (.load [.int .i64] false (.t 40)),zG 42 39 true .leq 41 16,zg 43 35 false (.pick (.t 39) (.t 42) (.const (.bool false))),zO 44 35 43,zm 31 44] (zw 31 (.ref 2) .skip),
zs [zf 17 0 1,zl 18 17,zK 19 .geq 18 4,zm 20 19,zg 21 20 true (.fld 0 (.t 1)),zg 22 20 true (.load [.int .i64] false (.t 21)),zG 23 20 true .leq 22 10,zA 24 20 23,zm 16 24] (zw 16 (.ref 1) (.ref 3)),
zs [zv 2 (.int .u8 0)] .ret,
.seq (.blk 0 (zs [zf 4 0 1,zl 5 4,zK 6 .eql 5 3,zm 7 6,zg 8 7 false (.fld 0 (.t 1)),zg 9 7 false (.load [.int .i64] false (.t 8)),zG 10 7 false .eql 9 11,zO 11 7 10,zm 3 11] (zw 3 (.ref 0) (.ref 4)))) (.ref 5)]
def X20:XC:=zs [zx 1 (.box 47 5 (.t 0)),zv 2 (.int .u8 0)] (.ref 6)
abbrev K20:List Nat:=[0,1,2,3,16,31]
theorem n20:Tryz.f20.ntmps=51:=by kernel_rfl
theorem r20:resT Tryz.f20.results.toList=some [2]:=by kernel_rfl
theorem x20:cmpF Tryz.prog Tryz.f20=some (expand T20 8 X20):=by kernel_rfl
def T21 (n:Nat):XC:=lkT n [
]
def X21:XC:=.ops [zm 6 0,zm 7 0,zx 8 (.nilc (.t 7)),zf 9 2 8,zL 10 [.slc] 9,zm 11 1,zm 12 2,zx 13 (.build [.int .i64 0,.int .i64 0] [(0,1,.t 11),(1,1,.t 12)]),zx 14 (.buildS 33 1 2 [.int .i64 0,.int .i64 0] [(0,.t 13)]),zx 15 (.app 33 2 16 (.t 10) (.t 14)),zx 16 (.nilc (.t 6)),zf 17 2 16,zS 1 17 15]
abbrev K21:List Nat:=[0,1,2]
theorem n21:Tryz.f21.ntmps=18:=by kernel_rfl
theorem r21:resT Tryz.f21.results.toList=some []:=by kernel_rfl
theorem x21:cmpF Tryz.prog Tryz.f21=some (expand T21 1 X21):=by kernel_rfl
theorem n23:Tryz.f23.ntmps=17:=by kernel_rfl
theorem n25:Tryz.f25.ntmps=20:=by kernel_rfl
def T26 (n:Nat):XC:=lkT n [
zs [zm 9 0,zm 2 9] .ret,
.ops [zm 52 3,zp 53 52,zm 3 53],
zs [zm 45 0,zm 46 3,zm 47 4,zm 48 5,zd 49 2 47 48,zx 50 (.load [.int .i64,.int .i64] true (.t 49)),zd 51 2 45 46,zS 2 51 50] (.ref 1),
.ops [zm 33 5,zp 34 33,zm 5 34],
.seq (.blk 3 (zs [zm 35 4,zm 36 5,zd 37 2 35 36,zx 38 (.load [.int .i64,.int .i64] true (.t 37)),zm 39 4,zm 40 5,zx 41 (.arith .sub .i64 (.t 40) (.i 1)),zd 42 2 39 41,zx 43 (.load [.int .i64,.int .i64] true (.t 42)),zx 44 (.eqa true [.int .i64,.int .i64] (.t 38) (.t 43))] (zw 44 (.ref 2) .skip))) (.ref 3),
.seq (zs [zm 29 5,zm 30 4,ze 31 30,zk 32 .lss 29 31] (zw 32 .skip (.exit 2))) (.ref 4),
zs [zm 57 0,zm 58 3,zx 59 (.sub 2 (.t 57) none (some (.t 58))),zm 2 59] .ret,
zs [zm 54 0,zm 55 3,zx 56 (.sub 2 (.t 54) (some (.t 55)) none),zn (.clr 2 [.int .i64 0,.int .i64 0] (.t 56))] (.ref 6),
.seq (zs [zv 5 (.int .i64 1)] (.blk 2 (.loop (.ref 5)))) (.ref 7),
zs [zm 26 0,zm 27 3,zx 28 (.sub 2 (.t 26) (some (.t 27)) none),zm 4 28] (.ref 8),
.ops [zm 14 3,zp 15 14,zm 3 15],
.seq (.blk 1 (zs [zm 16 0,zm 17 3,zd 18 2 16 17,zx 19 (.load [.int .i64,.int .i64] true (.t 18)),zm 20 0,zm 21 3,zx 22 (.arith .sub .i64 (.t 21) (.i 1)),zd 23 2 20 22,zx 24 (.load [.int .i64,.int .i64] true (.t 23)),zx 25 (.eqa false [.int .i64,.int .i64] (.t 19) (.t 24))] (zw 25 (.ref 9) .skip))) (.ref 10),
.seq (zs [zm 10 3,zm 11 0,ze 12 11,zk 13 .lss 10 12] (zw 13 .skip (.exit 0))) (.ref 11),
zs [zm 60 0,zm 2 60] .ret,
.seq (zs [zv 3 (.int .i64 1)] (.blk 0 (.loop (.ref 12)))) (.ref 13),
.seq (zs [zm 6 0,ze 7 6,zK 8 .lss 7 2] (zw 8 (.ref 0) .skip)) (.ref 14)]
def X26:XC:=zs [zv 2 (.slice none 0 0)] (.ref 15)
abbrev K26:List Nat:=[0,2,3,4,5,8,13,25,32,44]
theorem n26:Tryz.f26.ntmps=61:=by kernel_rfl
theorem r26:resT Tryz.f26.results.toList=some [2]:=by kernel_rfl
theorem x26:cmpF Tryz.prog Tryz.f26=some (expand T26 17 X26):=by kernel_rfl
def T42 (n:Nat):XC:=lkT n [
zs [zf 11 1 1,zl 12 11,zx 13 (.buildS 3 1 1 [.int .i64 0] [(0,.t 12)]),zc 14 44 [.t 13],zm 2 14] .ret,
zs [zv 2 (.int .u8 0)] .ret,
.seq (zs [zf 3 0 1,zl 4 3,zK 5 .geq 4 2,zm 6 5,zg 7 6 true (.fld 0 (.t 1)),zg 8 6 true (.load [.int .i64] false (.t 7)),zG 9 6 true .leq 8 11,zA 10 6 9] (zw 10 (.ref 0) .skip)) (.ref 1)]
def X42:XC:=zs [zx 1 (.box 47 5 (.t 0)),zv 2 (.int .u8 0)] (.ref 2)
abbrev K42:List Nat:=[0,1,2,10]
theorem n42:Tryz.f42.ntmps=15:=by kernel_rfl
theorem r42:resT Tryz.f42.results.toList=some [2]:=by kernel_rfl
theorem x42:cmpF Tryz.prog Tryz.f42=some (expand T42 4 X42):=by kernel_rfl
def T43 (n:Nat):XC:=lkT n [
zs [zx 14 (.mkfn (.func 69) [] [.t 3,.t 5,.t 2]),zm 4 14] .ret,
zs [zL 6 [.ptr] 2,zx 7 (.nilc (.t 6)),zf 8 0 7,zL 9 [.slc] 8,zf 10 0 3,zl 11 10,zd 12 5 9 11,zi 13 12,zx 5 (.alloc 47 [.int .i64 0,.int .i64 0,.int .i64 0,.int .i64 0,.int .i64 0]),zS 5 5 13] (.ref 0)]
def X43:XC:=zs [zx 2 (.box 61 1 (.t 0)),zx 3 (.box 68 2 (.t 1)),zv 4 .nilFunc] (.ref 1)
abbrev K43:List Nat:=[0,1,2,3,4,5]
theorem n43:Tryz.f43.ntmps=15:=by kernel_rfl
theorem r43:resT Tryz.f43.results.toList=some [4]:=by kernel_rfl
theorem x43:cmpF Tryz.prog Tryz.f43=some (expand T43 3 X43):=by kernel_rfl
def T44 (n:Nat):XC:=lkT n [
.ops [zm 11 2,zm 12 4,zx 13 (.shift .shl .u8 (.const (.int .u8 1)) (.t 12)),zx 14 (.bits .or .u8 (.t 11) (.t 13)),zm 2 14],
.seq (.blk 1 (zs [zd 9 1 5 7,zl 10 9,zm 4 10] (.ref 0))) (.ops [zp 15 7,zm 7 15]),
.seq (zw 8 .skip (.exit 0)) (.ref 1),
zs [zk 8 .lss 7 6] (.ref 2),
zs [zm 16 2,zm 2 16] .ret,
.seq (zs [zm 5 0,ze 6 5,zv 7 (.int .i64 0)] (.blk 0 (.loop (.ref 3)))) (.ref 4)]
def X44:XC:=zs [zv 2 (.int .u8 0)] (.ref 5)
abbrev K44:List Nat:=[0,2,4,5,6,7,8]
theorem n44:Tryz.f44.ntmps=17:=by kernel_rfl
theorem r44:resT Tryz.f44.results.toList=some [2]:=by kernel_rfl
theorem x44:cmpF Tryz.prog Tryz.f44=some (expand T44 7 X44):=by kernel_rfl
def T69 (n:Nat):XC:=lkT n [
.ops [zL 18 [.ptr] 3,zf 19 0 1,zl 20 19,zc 21 21 [.t 18,.i 4,.t 20]],
.seq (zs [zf 16 1 1,zL 17 [.bool] 16] (zw 17 (.ref 0) .skip)) .ret,
zs [zL 30 [.ptr] 3,zf 31 0 1,zl 32 31,zc 33 21 [.t 30,.i 3,.t 32]] .ret,
zs [zL 43 [.ptr] 3,zf 44 0 1,zl 45 44,zc 46 21 [.t 43,.i 2,.t 45]] .ret,
.ops [zf 56 1 1,zL 57 [.bool] 56,zx 58 (.not (.t 57)),zf 59 1 5,zS 1 59 58],
.ops [zL 77 [.ptr] 3,zf 78 0 1,zl 79 78,zc 80 21 [.t 77,.i 6,.t 79]],
zs [zm 81 0,zf 82 4 2,zl 83 82,zf 84 1 1,zL 85 [.bool] 84,zx 86 (.build [.int .i64 0,.bool false] [(0,1,.t 83),(1,1,.t 85)]),.mk (some 87) none (.callv (.t 81) [.t 86]),zx 88 (.not (.t 87))] (zw 88 .ret .skip),
zs [zf 89 0 2,zl 90 89,zK 91 .eql 90 13] (zw 91 .ret .skip),
.seq (zs [zf 69 4 2,zl 70 69,zK 71 .lss 70 0,zm 72 71,zg 73 72 false (.fld 4 (.t 2)),zg 74 72 false (.load [.int .i64] false (.t 73)),zG 75 72 false .gtr 74 1024,zO 76 72 75] (zw 76 (.ref 5) (.ref 6))) (.ref 7),
zs [zf 61 0 2,zl 62 61,zK 63 .geq 62 13,zm 64 63,zg 65 64 true (.fld 0 (.t 2)),zg 66 64 true (.load [.int .i64] false (.t 65)),zG 67 64 true .leq 66 16,zA 68 64 67,zm 60 68] (zw 60 (.ref 8) .skip),
zs [zf 48 0 2,zl 49 48,zK 50 .eql 49 17,zm 51 50,zg 52 51 false (.fld 0 (.t 2)),zg 53 51 false (.load [.int .i64] false (.t 52)),zG 54 51 false .eql 53 18,zO 55 51 54,zm 47 55] (zw 47 (.ref 4) (.ref 9)),
zs [zf 35 0 2,zl 36 35,zK 37 .eql 36 18,zm 38 37,zg 39 38 true (.fld 1 (.t 1)),zg 40 38 true (.load [.bool] false (.t 39)),zg 41 38 true (.not (.t 40)),zA 42 38 41,zm 34 42] (zw 34 (.ref 3) (.ref 10)),
zs [zf 23 0 2,zl 24 23,zK 25 .eql 24 17,zm 26 25,zg 27 26 true (.fld 1 (.t 1)),zg 28 26 true (.load [.bool] false (.t 27)),zA 29 26 28,zm 22 29] (zw 22 (.ref 2) (.ref 11)),
.ops [zm 92 0,zx 93 (.load [.int .i64,.bool] true (.t 5)),.mk (some 94) none (.callv (.t 92) [.t 93])],
.seq (.blk 0 (zs [zf 13 0 2,zl 14 13,zK 15 .eql 14 1,zm 12 15] (zw 12 (.ref 1) (.ref 12)))) (.ref 13)]
def X69:XC:=zs [zf 6 0 1,zl 7 6,zp 8 7,zf 9 1 1,zL 10 [.bool] 9,zx 11 (.build [.int .i64 0,.bool false] [(0,1,.t 8),(1,1,.t 10)]),zx 5 (.alloc 68 [.int .i64 0,.bool false]),zS 2 5 11] (.ref 14)
abbrev K69:List Nat:=[0,1,2,3,5,12,17,22,34,47,60,76,88,91]
theorem n69:Tryz.f69.ntmps=95:=by kernel_rfl
theorem r69:resT Tryz.f69.results.toList=some []:=by kernel_rfl
theorem x69:cmpF Tryz.prog Tryz.f69=some (expand T69 16 X69):=by kernel_rfl
theorem n149:Tryz.f149.ntmps=17:=by kernel_rfl
attribute [go_sem] X7 T7
attribute [go_sem] T19n9 X19 T19
attribute [go_sem] X20 T20
attribute [go_sem] X21 T21
attribute [go_sem] X26 T26
attribute [go_sem] X42 T42
attribute [go_sem] X43 T43
attribute [go_sem] X44 T44
attribute [go_sem] X69 T69
end Go.Proofs.YtgghmmjoplddbaaGreatDoor
