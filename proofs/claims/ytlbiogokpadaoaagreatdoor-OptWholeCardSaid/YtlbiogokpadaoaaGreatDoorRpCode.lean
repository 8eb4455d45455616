/- Printed by program: the small code of functions, and that it is theirs. -/
import Derived.Test.YtlbiogokpadaoaaGreatDoorSxStill
import Derived.Test.YtlbiogokpadaoaaGreatDoorProg
import Derived.KernelRfl
set_option linter.unusedSimpArgs false
set_option linter.unusedVariables false
set_option linter.unnecessarySimpa false
namespace Go.Proofs.YtlbiogokpadaoaaGreatDoor
open Go Go.Sx
set_option maxRecDepth 100000
def T89 (n:Nat):XC:=lkT n [
.ops [zm 44 7,zp 45 44,zm 7 45],
.seq (.blk 3 (.ops [zm 46 3,zm 47 5,zm 48 7,zd 49 1 47 48,zl 50 49,zd 51 1 46 50,zn (.store 1 (.t 51) (.const (.bool true)))])) (.ref 0),
.seq (zs [zm 40 7,zm 41 5,ze 42 41,zk 43 .lss 40 42] (zw 43 .skip (.exit 2))) (.ref 1),
zs [zv 7 (.int .i64 0)] (.blk 2 (.loop (.ref 2))),
zs [zm 36 3,zm 37 4,zp 38 37,zd 39 1 36 38,zn (.store 1 (.t 39) (.const (.bool true)))] (.ref 3),
zs [zm 35 6] (zw 35 (.ref 4) .skip),
.ops [zm 27 4,zp 28 27,zm 4 28],
.seq (.blk 1 (zs [zm 30 0,zm 31 4,zc 32 118 [.t 30,.t 31],zm 29 32,zy 33 29 0,zy 34 29 1,zm 5 33,zm 6 34] (.ref 5))) (.ref 6),
.seq (zs [zm 23 4,zm 24 0,ze 25 24,zk 26 .lss 23 25] (zw 26 .skip (.exit 0))) (.ref 7),
.ops [zm 66 9,zm 67 10,zx 68 (.build [.int .i64 0,.int .i64 0,.slice none 0 0] [(0,1,.t 67)]),zx 69 (.buildS 35 1 3 [.int .i64 0,.int .i64 0,.slice none 0 0] [(0,.t 68)]),zx 70 (.app 35 3 40 (.t 66) (.t 69)),zm 9 70],
.ops [zm 71 8,zm 72 10,zm 73 9,ze 74 73,zx 75 (.arith .sub .i64 (.t 74) (.i 1)),zd 76 1 71 72,zS 1 76 75],
.ops [zm 60 10,zp 61 60,zm 10 61],
.seq (.blk 5 (.seq (zs [zm 62 3,zm 63 10,zd 64 1 62 63,zL 65 [.bool] 64] (zw 65 (.ref 9) .skip)) (.ref 10))) (.ref 11),
.seq (zs [zm 56 10,zm 57 0,ze 58 57,zk 59 .lss 56 58] (zw 59 .skip (.exit 4))) (.ref 12),
.ops [zm 94 9,zm 95 11,zm 96 9,zm 97 11,zp 98 97,zd 99 3 96 98,zf 100 0 99,zl 101 100,zd 102 3 94 95,zf 103 1 102,zS 1 103 101],
.ops [zm 125 16,zp 126 125,zm 16 126],
.seq (.blk 11 (.ops [zm 127 15,zm 128 127,zh 129 128 false 8,zh 130 128 false 12,zh 131 128 false 16,zg 132 128 false (.idx 1 (.t 130) (.t 131)),zg 133 128 false (.load [.int .i64] false (.t 132)),zg 134 128 false (.idx 1 (.t 129) (.t 133)),zg 135 128 false (.load [.int .i64] false (.t 134)),zh 136 128 false 14,zg 137 128 false (.cmp .eql .i64 (.t 135) (.t 136)),zO 138 128 137,zm 15 138])) (.ref 15),
.seq (zs [zm 121 16,zm 122 12,ze 123 122,zk 124 .lss 121 123] (zw 124 .skip (.exit 10))) (.ref 16),
.ops [zm 140 9,zm 141 11,zm 142 9,zm 143 11,zd 144 3 142 143,zf 145 2 144,zL 146 [.slc] 145,zm 147 14,zx 148 (.buildS 3 1 1 [.int .i64 0] [(0,.t 147)]),zx 149 (.app 3 1 8 (.t 146) (.t 148)),zd 150 3 140 141,zf 151 2 150,zS 1 151 149],
zs [zm 139 15] (zw 139 (.ref 18) .skip),
.seq (zs [zv 16 (.int .i64 0)] (.blk 10 (.loop (.ref 17)))) (.ref 19),
.ops [zm 119 14,zp 120 119,zm 14 120],
.seq (.blk 9 (zs [zv 15 (.bool false)] (.ref 20))) (.ref 21),
.seq (zs [zm 115 14,zm 116 9,ze 117 116,zk 118 .lss 115 117] (zw 118 .skip (.exit 8))) (.ref 22),
zs [zv 14 (.int .i64 0)] (.blk 8 (.loop (.ref 23))),
zs [zm 105 0,zm 106 9,zm 107 11,zd 108 3 106 107,zf 109 1 108,zl 110 109,zx 111 (.arith .sub .i64 (.t 110) (.i 1)),zc 112 118 [.t 105,.t 111],zm 104 112,zy 113 104 0,zy 114 104 1,zm 12 113,zm 13 114] (.ref 24),
.seq (zs [zm 89 11,zp 90 89,zm 91 9,ze 92 91,zk 93 .lss 90 92] (zw 93 (.ref 14) .skip)) (.ref 25),
.ops [zm 81 11,zp 82 81,zm 11 82],
.seq (.blk 7 (zs [zm 83 9,zm 84 11,zm 85 0,ze 86 85,zd 87 3 83 84,zf 88 1 87,zS 1 88 86] (.ref 26))) (.ref 27),
.seq (zs [zm 77 11,zm 78 9,ze 79 78,zk 80 .lss 77 79] (zw 80 .skip (.exit 6))) (.ref 28),
zs [zm 152 9,zm 2 152] .ret,
.seq (zs [zv 11 (.int .i64 0)] (.blk 6 (.loop (.ref 29)))) (.ref 30),
.seq (zs [zv 10 (.int .i64 0)] (.blk 4 (.loop (.ref 13)))) (.ref 31),
zs [zv 9 (.slice none 0 0)] (.ref 32),
zs [zm 52 0,ze 53 52,zp 54 53,zx 55 (.mkslc 3 1 8 [.int .i64 0] (.t 54) (.t 54)),zm 8 55] (.ref 33),
.seq (zs [zv 4 (.int .i64 0)] (.blk 0 (.loop (.ref 8)))) (.ref 34),
zs [zm 21 3,zx 22 (.idx 1 (.t 21) (.i 0)),zn (.store 1 (.t 22) (.const (.bool true)))] (.ref 35),
zs [zm 17 0,ze 18 17,zp 19 18,zx 20 (.mkslc 4 1 1 [.bool false] (.t 19) (.t 19)),zm 3 20] (.ref 36)]
def X89:XC:=zs [zv 2 (.slice none 0 0)] (.ref 37)
abbrev K89:List Nat:=[0,2,3,4,5,6,7,8,9,10,11,12,14,15,16,26,35,43,59,65,80,93,118,124,139]
theorem n89:Tryz.f89.ntmps=153:=by kernel_rfl
theorem r89:resT Tryz.f89.results.toList=some [2]:=by kernel_rfl
theorem x89:cmpF Tryz.prog Tryz.f89=some (expand T89 39 X89):=by kernel_rfl
def T118 (n:Nat):XC:=lkT n [
zs [zv 4 (.slice none 0 0),zv 5 (.bool true)] .ret,
.ops [zm 44 9,zf 45 4 6,zl 46 45,zx 47 (.buildS 3 1 1 [.int .i64 0] [(0,.t 46)]),zx 48 (.app 3 1 8 (.t 44) (.t 47)),zm 9 48],
.ops [zm 59 9,zm 60 1,zp 61 60,zx 62 (.buildS 3 1 1 [.int .i64 0] [(0,.t 61)]),zx 63 (.app 3 1 8 (.t 59) (.t 62)),zm 9 63],
zs [zm 64 9,zm 65 8,zm 4 64,zm 5 65] .ret,
.seq (zs [zf 49 0 6,zl 50 49,zK 51 .neq 50 13,zm 52 51,zh 53 52 true 1,zg 54 52 true (.arith .add .i64 (.t 53) (.i 1)),zh 55 52 true 0,zg 56 52 true (.lenS (.t 55)),zg 57 52 true (.cmp .lss .i64 (.t 54) (.t 56)),zA 58 52 57] (zw 58 (.ref 2) .skip)) (.ref 3),
.seq (zs [zm 31 8,zm 32 31,zg 33 32 true (.fld 4 (.t 6)),zg 34 32 true (.load [.int .i64] false (.t 33)),zG 35 32 true .geq 34 0,zA 36 32 35,zm 37 36,zg 38 37 true (.fld 4 (.t 6)),zg 39 37 true (.load [.int .i64] false (.t 38)),zh 40 37 true 0,zg 41 37 true (.lenS (.t 40)),zg 42 37 true (.cmp .lss .i64 (.t 39) (.t 41)),zA 43 37 42] (zw 43 (.ref 1) .skip)) (.ref 4),
.seq (zs [zm 24 7,zx 25 (.not (.t 24)),zm 26 25,zg 27 26 false (.fld 0 (.t 6)),zg 28 26 false (.load [.int .i64] false (.t 27)),zG 29 26 false .eql 28 1,zO 30 26 29] (zw 30 (.ref 0) .skip)) (.ref 5),
zs [zv 9 (.slice none 0 0)] (.ref 6),
zs [zf 16 0 6,zl 17 16,zK 18 .geq 17 13,zm 19 18,zg 20 19 true (.fld 0 (.t 6)),zg 21 19 true (.load [.int .i64] false (.t 20)),zG 22 19 true .leq 21 16,zA 23 19 22,zm 8 23] (.ref 7),
zs [zi 14 6,zc 15 90 [.t 14],zm 7 15] (.ref 8),
zs [zm 10 0,zm 11 1,zd 12 5 10 11,zi 13 12,zx 6 (.alloc 41 [.int .i64 0,.int .i64 0,.int .i64 0,.int .i64 0,.int .i64 0]),zS 5 6 13] (.ref 9)]
def X118:XC:=zs [zv 4 (.slice none 0 0),zv 5 (.bool false)] (.ref 10)
abbrev K118:List Nat:=[0,1,4,5,6,7,8,9,30,43,58]
theorem n118:Tryz.f118.ntmps=66:=by kernel_rfl
theorem r118:resT Tryz.f118.results.toList=some [4,5]:=by kernel_rfl
theorem x118:cmpF Tryz.prog Tryz.f118=some (expand T118 12 X118):=by kernel_rfl
attribute [go_sem] X89 T89
attribute [go_sem] X118 T118
end Go.Proofs.YtlbiogokpadaoaaGreatDoor
