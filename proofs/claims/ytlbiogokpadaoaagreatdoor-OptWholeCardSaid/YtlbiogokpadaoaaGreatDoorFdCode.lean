/- Printed by program: the small code of functions, and that it is theirs. -/
import Derived.Test.YtlbiogokpadaoaaGreatDoorSxStill
import Derived.Test.YtlbiogokpadaoaaGreatDoorProg
import Derived.KernelRfl
set_option linter.unusedSimpArgs false
set_option linter.unusedVariables false
set_option linter.unnecessarySimpa false
namespace Go.Proofs.YtlbiogokpadaoaaGreatDoor
open Go Go.Sx
set_option maxRecDepth 100000
def T3 (n:Nat):XC:=lkT n [
zs [zv 2 (.bool true)] .ret,
zs [zm 16 0,zc 17 15 [.i 0,.t 16],zm 2 17] .ret,
.seq (zs [zm 3 0,ze 4 3,zK 5 .gtr 4 300,zm 6 5,zh 7 6 true 0,zg 8 6 true (.lenS (.t 7)),zG 9 6 true .leq 8 1024,zA 10 6 9,zm 11 10,zh 12 11 false 0,zg 13 11 false (.lenS (.t 12)),zG 14 11 false .gtr 13 1100,zO 15 11 14] (zw 15 (.ref 0) .skip)) (.ref 1)]
def X3:XC:=zs [zv 2 (.bool false)] (.ref 2)
theorem n3:Tryz.f3.ntmps=18:=by kernel_rfl
theorem r3:resT Tryz.f3.results.toList=some [2]:=by kernel_rfl
theorem x3:cmpF Tryz.prog Tryz.f3=some (expand T3 4 X3):=by kernel_rfl
def T55 (n:Nat):XC:=lkT n [
zs [zm 18 5,zv 2 (.slice none 0 0),zm 3 18] .ret,
.ops [zm 33 10,zp 34 33,zm 10 34],
.seq (.blk 3 (.ops [zm 35 6,zm 36 10,zm 37 0,zm 38 10,zd 39 5 37 38,zi 40 39,zm 41 10,zc 42 83 [.t 9,.t 40,.t 41],zd 43 5 35 36,zS 5 43 42])) (.ref 1),
.seq (zs [zm 29 10,zf 30 1 8,zl 31 30,zk 32 .lss 29 31] (zw 32 .skip (.exit 2))) (.ref 2),
zs [zf 27 0 8,zl 28 27,zm 10 28] (.blk 2 (.loop (.ref 3))),
zs [zx 9 (.alloc 126 [.bool false,.int .u64 0,.bool false,.int .u64 0,.bool false,.int .u64 0,.bool false,.int .u64 0,.bool false,.int .u64 0,.bool false,.int .u64 0,.bool false,.int .u64 0,.bool false,.int .u64 0])] (.ref 4),
.seq (.blk 1 (zs [zd 25 3 21 23,zx 26 (.load [.int .i64,.int .i64,.slc] true (.t 25)),zx 8 (.alloc 35 [.int .i64 0,.int .i64 0,.slice none 0 0]),zS 3 8 26] (.ref 5))) (.ops [zp 44 23,zm 23 44]),
.seq (zw 24 .skip (.exit 0)) (.ref 6),
zs [zk 24 .lss 23 22] (.ref 7),
zs [zm 45 6,zm 2 45,zv 3 (.int .i64 0)] .ret,
.seq (zs [zm 21 4,ze 22 21,zv 23 (.int .i64 0)] (.blk 0 (.loop (.ref 8)))) (.ref 9),
zs [zm 19 0,zc 20 82 [.t 19],zm 6 20] (.ref 10),
.seq (zs [zm 16 5,zK 17 .neq 16 0] (zw 17 (.ref 0) .skip)) (.ref 11),
zs [zm 12 0,zc 13 17 [.t 12],zm 11 13,zy 14 11 0,zy 15 11 1,zm 4 14,zm 5 15] (.ref 12)]
def X55:XC:=zs [zv 2 (.slice none 0 0),zv 3 (.int .i64 0)] (.ref 13)
abbrev K55:List Nat:=[0,2,3,4,5,6,8,9,10,17,21,22,23,24,32]
theorem n55:Tryz.f55.ntmps=46:=by kernel_rfl
theorem r55:resT Tryz.f55.results.toList=some [2,3]:=by kernel_rfl
theorem x55:cmpF Tryz.prog Tryz.f55=some (expand T55 15 X55):=by kernel_rfl
def T61 (n:Nat):XC:=lkT n [
.ops [zm 55 13,zp 56 55,zm 13 56],
.seq (.blk 5 (.ops [zm 57 11,zm 58 57,zh 59 58 true 12,zh 60 58 true 13,zg 61 58 true (.idx 1 (.t 59) (.t 60)),zg 62 58 true (.load [.int .i64] false (.t 61)),zg 63 58 true (.idxA 8 1 (.t 7) (.t 62)),zg 64 58 true (.load [.bool] false (.t 63)),zA 65 58 64,zm 11 65])) (.ref 0),
.seq (zs [zm 51 13,zm 52 12,ze 53 52,zk 54 .lss 51 53] (zw 54 .skip (.exit 4))) (.ref 1),
.ops [zm 78 3,zm 79 8,zf 80 1 14,zl 81 80,zx 82 (.build [.int .i64 0,.int .i64 0,.int .i64 0,.int .i64 0,.int .i64 0] [(0,1,.i 13),(4,1,.t 81)]),zd 83 5 78 79,zS 5 83 82],
.ops [zf 105 1 9,zl 106 105,zx 107 (.idxA 8 1 (.t 6) (.t 106)),zn (.store 1 (.t 107) (.const (.int .u64 0)))],
zs [zf 102 1 9,zl 103 102,zx 104 (.idxA 8 1 (.t 7) (.t 103)),zn (.store 1 (.t 104) (.const (.bool false)))] (.ref 4),
.ops [zm 139 3,zm 140 8,zf 141 1 9,zl 142 141,zf 143 3 14,zL 144 [.int .u64] 143,zx 145 (.conv .i64 (.t 144)),zx 146 (.build [.int .i64 0,.int .i64 0,.int .i64 0,.int .i64 0,.int .i64 0] [(0,1,.i 2),(1,1,.t 142),(4,1,.t 145)]),zd 147 5 139 140,zS 5 147 146],
zs [zf 133 0 9,zl 134 133,zK 135 .neq 134 2,zm 136 135,zh 137 136 true 16,zA 138 136 137] (zw 138 (.ref 6) .skip),
zs [zf 125 3 14,zL 126 [.int .u64] 125,zx 127 (.cmp .leq .u64 (.t 126) (.const (.int .u64 2147483647))),zm 128 127,zg 129 128 false (.fld 3 (.t 14)),zg 130 128 false (.load [.int .u64] false (.t 129)),zg 131 128 false (.cmp .geq .u64 (.t 130) (.const (.int .u64 18446744071562067968))),zO 132 128 131,zm 16 132] (.ref 7),
zs [zf 120 1 9,zl 121 120,zf 122 3 14,zL 123 [.int .u64] 122,zx 124 (.idxA 8 1 (.t 6) (.t 121)),zS 1 124 123] (.ref 8),
zs [zf 117 1 9,zl 118 117,zx 119 (.idxA 8 1 (.t 7) (.t 118)),zn (.store 1 (.t 119) (.const (.bool true)))] (.ref 9),
zs [zf 109 0 9,zl 110 109,zK 111 .geq 110 2,zm 112 111,zg 113 112 true (.fld 0 (.t 9)),zg 114 112 true (.load [.int .i64] false (.t 113)),zG 115 112 true .leq 114 10,zA 116 112 115,zm 108 116] (zw 108 (.ref 10) .skip),
zs [zf 85 0 9,zl 86 85,zK 87 .eql 86 11,zm 88 87,zg 89 88 false (.fld 0 (.t 9)),zg 90 88 false (.load [.int .i64] false (.t 89)),zG 91 88 false .geq 90 2,zh 92 88 false 91,zg 93 92 true (.fld 0 (.t 9)),zg 94 92 true (.load [.int .i64] false (.t 93)),zG 95 92 true .leq 94 10,zg 96 88 false (.pick (.t 92) (.t 95) (.const (.bool false))),zh 97 88 false 96,zh 98 97 true 11,zg 99 97 true (.not (.t 98)),zg 100 88 false (.pick (.t 97) (.t 99) (.const (.bool false))),zO 101 88 100,zm 84 101] (zw 84 (.ref 5) (.ref 11)),
.blk 6 (zs [zm 73 15,zK 74 .eql 73 2,zm 75 74,zh 76 75 true 11,zA 77 75 76,zm 72 77] (zw 72 (.ref 3) (.ref 12))),
zs [zi 70 9,zc 71 93 [.t 70],zm 15 71] (.ref 13),
zs [zi 66 9,zx 67 (.load [.int .u64,.int .u64,.int .u64,.int .u64,.int .u64,.int .u64,.int .u64,.int .u64] true (.t 6)),zm 68 8,zc 69 92 [.t 66,.t 67,.t 68],zx 14 (.alloc 54 [.int .i64 0,.int .i64 0,.int .i64 0,.int .u64 0,.int .u64 0]),zS 5 14 69] (.ref 14),
.seq (zs [zv 13 (.int .i64 0)] (.blk 4 (.loop (.ref 2)))) (.ref 15),
zs [zi 49 9,zc 50 91 [.t 49],zm 12 50] (.ref 16),
zs [zv 11 (.bool true)] (.ref 17),
.seq (zs [zm 47 10,zx 48 (.not (.t 47))] (zw 48 (.exit 3) .skip)) (.ref 18),
zs [zi 45 9,zc 46 90 [.t 45],zm 10 46] (.ref 19),
.ops [zm 39 8,zp 40 39,zm 8 40],
.seq (.blk 3 (zs [zm 41 0,zm 42 8,zd 43 5 41 42,zi 44 43,zx 9 (.alloc 41 [.int .i64 0,.int .i64 0,.int .i64 0,.int .i64 0,.int .i64 0]),zS 5 9 44] (.ref 20))) (.ref 21),
.seq (zs [zm 32 8,zm 33 4,zm 34 5,zd 35 3 33 34,zf 36 1 35,zl 37 36,zk 38 .lss 32 37] (zw 38 .skip (.exit 2))) (.ref 22),
zs [zm 27 4,zm 28 5,zd 29 3 27 28,zf 30 0 29,zl 31 30,zm 8 31] (.blk 2 (.loop (.ref 23))),
zs [zx 7 (.alloc 135 [.bool false,.bool false,.bool false,.bool false,.bool false,.bool false,.bool false,.bool false])] (.ref 24),
.ops [zm 25 5,zp 26 25,zm 5 26],
.seq (.blk 1 (zs [zx 6 (.alloc 50 [.int .u64 0,.int .u64 0,.int .u64 0,.int .u64 0,.int .u64 0,.int .u64 0,.int .u64 0,.int .u64 0])] (.ref 25))) (.ref 26),
.seq (zs [zm 21 5,zm 22 4,ze 23 22,zk 24 .lss 21 23] (zw 24 .skip (.exit 0))) (.ref 27),
zs [zm 148 3,zm 2 148] .ret,
.seq (zs [zv 5 (.int .i64 0)] (.blk 0 (.loop (.ref 28)))) (.ref 29),
zs [zm 19 0,zc 20 89 [.t 19],zm 4 20] (.ref 30),
zs [zm 17 0,zc 18 29 [.t 17],zm 3 18] (.ref 31)]
def X61:XC:=zs [zv 2 (.slice none 0 0)] (.ref 32)
abbrev K61:List Nat:=[0,2,3,4,5,6,7,8,9,10,11,12,13,14,15,16,24,38,48,54,72,84,108,138]
theorem n61:Tryz.f61.ntmps=149:=by kernel_rfl
theorem r61:resT Tryz.f61.results.toList=some [2]:=by kernel_rfl
theorem x61:cmpF Tryz.prog Tryz.f61=some (expand T61 34 X61):=by kernel_rfl
def T83 (n:Nat):XC:=lkT n [
zs [zi 15 4,zS 5 6 15] .ret,
zs [zi 38 4,zS 5 6 38] .ret,
zs [zm 40 0,zx 41 (.nilc (.t 40)),zm 44 2,zi 39 4,zx 42 (.load [.bool,.int .u64,.bool,.int .u64,.bool,.int .u64,.bool,.int .u64,.bool,.int .u64,.bool,.int .u64,.bool,.int .u64,.bool,.int .u64] true (.t 41)),zc 43 117 [.t 42],.mk none none (.still 39 (.load [.int .i64,.int .i64,.int .i64,.int .i64,.int .i64] true (.t 4))),zc 45 24 [.t 39,.t 43,.t 44],zx 46 (.fldv 1 1 false (.t 45)),zx 47 (.build [.int .i64 0,.int .i64 0,.int .i64 0,.int .i64 0,.int .i64 0] [(0,1,.i 13),(4,1,.t 46)]),zS 5 6 47] .ret,
.seq (zs [zm 28 0,zx 29 (.nilc (.t 28)),zx 30 (.load [.bool,.int .u64,.bool,.int .u64,.bool,.int .u64,.bool,.int .u64,.bool,.int .u64,.bool,.int .u64,.bool,.int .u64,.bool,.int .u64] true (.t 29)),zf 31 1 4,zl 32 31,zf 33 2 4,zl 34 33,zx 35 (.buildS 3 2 1 [.int .i64 0] [(0,.t 32),(1,.t 34)]),zc 36 116 [.t 30,.t 35],zx 37 (.not (.t 36))] (zw 37 (.ref 1) .skip)) (.ref 2),
zs [zi 58 4,zS 5 6 58] .ret,
zs [zm 52 0,zf 53 1 4,zl 54 53,zx 55 (.build [.bool false,.int .u64 0] []),zx 56 (.nilc (.t 52)),zx 57 (.idxA 8 2 (.t 56) (.t 54)),zS 2 57 55] (.ref 4),
.ops [zm 67 9,zx 68 (.sub 1 (.t 67) none (some (.i 1))),zm 9 68],
zs [zi 78 4,zS 5 6 78] .ret,
zs [zf 70 0 4,zl 71 70,zK 72 .lss 71 2,zm 73 72,zg 74 73 false (.fld 0 (.t 4)),zg 75 73 false (.load [.int .i64] false (.t 74)),zG 76 73 false .gtr 75 10,zO 77 73 76,zm 69 77] (zw 69 (.ref 7) .skip),
zs [zf 64 0 4,zl 65 64,zK 66 .eql 65 3,zm 63 66] (zw 63 (.ref 6) (.ref 8)),
zw 59 (.ops [zv 9 (.slice none 0 0)]) (.ref 9),
zs [zf 60 0 4,zl 61 60,zK 62 .eql 61 2,zm 59 62] (.ref 10),
zs [zf 49 0 4,zl 50 49,zK 51 .eql 50 11,zm 48 51] (zw 48 (.ref 5) (.ref 11)),
zs [zi 91 4,zS 5 6 91] .ret,
zs [zm 85 0,zf 86 1 4,zl 87 86,zx 88 (.build [.bool false,.int .u64 0] []),zx 89 (.nilc (.t 85)),zx 90 (.idxA 8 2 (.t 89) (.t 87)),zS 2 90 88] (.ref 13),
zs [zf 120 1 4,zl 121 120,zm 122 11,zx 123 (.build [.int .i64 0,.int .i64 0,.int .i64 0,.int .i64 0,.int .i64 0] [(0,1,.i 2),(1,1,.t 121),(4,1,.t 122)]),zS 5 6 123] .ret,
zs [zf 109 0 4,zl 110 109,zK 111 .neq 110 2,zm 112 111,zh 113 112 true 11,zg 114 112 true (.cmp .geq .i64 (.t 113) (.const (.int .i64 (-2147483648)))),zA 115 112 114,zm 116 115,zh 117 116 true 11,zG 118 116 true .leq 117 2147483647,zA 119 116 118] (zw 119 (.ref 15) .skip),
zs [zi 124 4,zS 5 6 124] .ret,
.seq (zs [zm 107 10,zx 108 (.conv .i64 (.t 107)),zm 11 108] (.ref 16)) (.ref 17),
zs [zm 100 0,zf 101 1 4,zl 102 101,zm 103 10,zx 104 (.build [.bool false,.int .u64 0] [(0,1,.const (.bool true)),(1,1,.t 103)]),zx 105 (.nilc (.t 100)),zx 106 (.idxA 8 2 (.t 105) (.t 102)),zS 2 106 104] (.ref 18),
zs [zm 93 0,zx 94 (.nilc (.t 93)),zm 97 2,zi 92 4,zx 95 (.load [.bool,.int .u64,.bool,.int .u64,.bool,.int .u64,.bool,.int .u64,.bool,.int .u64,.bool,.int .u64,.bool,.int .u64,.bool,.int .u64] true (.t 94)),zc 96 117 [.t 95],.mk none none (.still 92 (.load [.int .i64,.int .i64,.int .i64,.int .i64,.int .i64] true (.t 4))),zc 98 24 [.t 92,.t 96,.t 97],zx 99 (.fldv 3 1 false (.t 98)),zm 10 99] (.ref 19),
.seq (zs [zm 79 0,zx 80 (.nilc (.t 79)),zx 81 (.load [.bool,.int .u64,.bool,.int .u64,.bool,.int .u64,.bool,.int .u64,.bool,.int .u64,.bool,.int .u64,.bool,.int .u64,.bool,.int .u64] true (.t 80)),zm 82 9,zc 83 116 [.t 81,.t 82],zx 84 (.not (.t 83))] (zw 84 (.ref 14) .skip)) (.ref 20),
.seq (.blk 0 (zs [zm 27 8,zm 26 27] (zw 26 (.ref 3) (.ref 12)))) (.ref 21),
zs [zf 21 2 4,zl 22 21,zf 23 3 4,zl 24 23,zx 25 (.buildS 3 2 1 [.int .i64 0] [(0,.t 22),(1,.t 24)]),zm 9 25] (.ref 22),
zs [zi 17 4,zc 18 84 [.t 17],zm 16 18,zy 19 16 0,zy 20 16 1,zm 7 19,zm 8 20] (.ref 23),
.seq (zs [zi 12 4,zc 13 21 [.t 12],zx 14 (.not (.t 13))] (zw 14 (.ref 0) .skip)) (.ref 24)]
def X83:XC:=zs [zx 4 (.box 41 5 (.t 1)),zx 6 (.alloc 41 [.int .i64 0,.int .i64 0,.int .i64 0,.int .i64 0,.int .i64 0])] (.ref 25)
abbrev K83:List Nat:=[0,1,2,4,6,8,9,10,11,14,26,37,48,59,63,69,84,119]
theorem n83:Tryz.f83.ntmps=125:=by kernel_rfl
theorem r83:rvOf Tryz.prog Tryz.f83.results.toList=some [RV.cell 6 5 true]:=by kernel_rfl
theorem x83:cmpF Tryz.prog Tryz.f83=some (expand T83 27 X83):=by kernel_rfl
def T116 (n:Nat):XC:=lkT n [
zs [zm 5 1,zx 6 (.mkfn (.func 145) [] [.t 2]),zc 7 144 [.t 5,.t 6],zx 8 (.not (.t 7)),zm 4 8] .ret]
def X116:XC:=zs [zx 2 (.box 126 16 (.t 0)),zv 4 (.bool false)] (.ref 0)
abbrev K116:List Nat:=[0,1,2,4]
theorem n116:Tryz.f116.ntmps=9:=by kernel_rfl
theorem r116:resT Tryz.f116.results.toList=some [4]:=by kernel_rfl
theorem x116:cmpF Tryz.prog Tryz.f116=some (expand T116 2 X116):=by kernel_rfl
def T117 (n:Nat):XC:=lkT n [
.ops [zm 10 3,zf 11 1 4,zL 12 [.int .u64] 11,zx 13 (.idxA 8 1 (.t 2) (.t 10)),zS 1 13 12],
.seq (.blk 1 (zs [zm 8 6,zx 9 (.ixA 8 2 true (.t 5) (.t 6)),zx 4 (.alloc 124 [.bool false,.int .u64 0]),zm 3 8,zS 2 4 9] (.ref 0))) (.ops [zp 14 6,zm 6 14]),
.seq (zw 7 .skip (.exit 0)) (.ref 1),
zs [zK 7 .lss 6 8] (.ref 2),
zs [zx 15 (.load [.int .u64,.int .u64,.int .u64,.int .u64,.int .u64,.int .u64,.int .u64,.int .u64] true (.t 2)),zS 8 2 15] .ret,
.seq (zs [zx 5 (.load [.bool,.int .u64,.bool,.int .u64,.bool,.int .u64,.bool,.int .u64,.bool,.int .u64,.bool,.int .u64,.bool,.int .u64,.bool,.int .u64] true (.t 1)),zv 6 (.int .i64 0)] (.blk 0 (.loop (.ref 3)))) (.ref 4)]
def X117:XC:=zs [zx 1 (.box 126 16 (.t 0)),zx 2 (.alloc 50 [.int .u64 0,.int .u64 0,.int .u64 0,.int .u64 0,.int .u64 0,.int .u64 0,.int .u64 0,.int .u64 0])] (.ref 5)
abbrev K117:List Nat:=[0,1,2,3,4,5,6,7]
theorem n117:Tryz.f117.ntmps=16:=by kernel_rfl
theorem r117:rvOf Tryz.prog Tryz.f117.results.toList=some [RV.cell 2 8 true]:=by kernel_rfl
theorem x117:cmpF Tryz.prog Tryz.f117=some (expand T117 7 X117):=by kernel_rfl
def T144 (n:Nat):XC:=lkT n [
zs [zm 5 0,zm 6 1,zc 7 162 [.t 5,.t 6],zK 8 .geq 7 0,zm 4 8] .ret]
def X144:XC:=zs [zv 4 (.bool false)] (.ref 0)
abbrev K144:List Nat:=[0,1,4]
theorem n144:Tryz.f144.ntmps=9:=by kernel_rfl
theorem r144:resT Tryz.f144.results.toList=some [4]:=by kernel_rfl
theorem x144:cmpF Tryz.prog Tryz.f144=some (expand T144 2 X144):=by kernel_rfl
def T145 (n:Nat):XC:=lkT n [
zs [zm 4 0,zx 5 (.idxA 8 2 (.t 1) (.t 4)),zx 6 (.load [.bool,.int .u64] true (.t 5)),zx 7 (.build [.bool false,.int .u64 0] []),zx 8 (.eqa false [.bool,.int .u64] (.t 6) (.t 7)),zm 3 8] .ret]
def X145:XC:=zs [zv 3 (.bool false)] (.ref 0)
abbrev K145:List Nat:=[0,1,3]
theorem n145:Tryz.f145.ntmps=9:=by kernel_rfl
theorem r145:resT Tryz.f145.results.toList=some [3]:=by kernel_rfl
theorem x145:cmpF Tryz.prog Tryz.f145=some (expand T145 2 X145):=by kernel_rfl
def T162 (n:Nat):XC:=lkT n [
zs [zm 17 5,zm 4 17] .ret,
zs [zm 11 1,zm 12 0,zm 13 5,zd 14 1 12 13,zl 15 14,.mk (some 16) none (.callv (.t 11) [.t 15])] (zw 16 (.ref 0) .skip),
.seq (.blk 1 (zs [zm 10 8,zm 5 10] (.ref 1))) (.ops [zp 18 8,zm 8 18]),
.seq (zw 9 .skip (.exit 0)) (.ref 2),
zs [zk 9 .lss 8 7] (.ref 3),
zs [zv 4 (.int .i64 (-1))] .ret,
.seq (zs [zm 6 0,ze 7 6,zv 8 (.int .i64 0)] (.blk 0 (.loop (.ref 4)))) (.ref 5)]
def X162:XC:=zs [zv 4 (.int .i64 0)] (.ref 6)
abbrev K162:List Nat:=[0,1,4,5,7,8,9,16]
theorem n162:Tryz.f162.ntmps=19:=by kernel_rfl
theorem r162:resT Tryz.f162.results.toList=some [4]:=by kernel_rfl
theorem x162:cmpF Tryz.prog Tryz.f162=some (expand T162 8 X162):=by kernel_rfl
attribute [go_sem] X3 T3
attribute [go_sem] X55 T55
attribute [go_sem] X61 T61
attribute [go_sem] X83 T83
attribute [go_sem] X116 T116
attribute [go_sem] X117 T117
attribute [go_sem] X144 T144
attribute [go_sem] X145 T145
attribute [go_sem] X162 T162
end Go.Proofs.YtlbiogokpadaoaaGreatDoor
