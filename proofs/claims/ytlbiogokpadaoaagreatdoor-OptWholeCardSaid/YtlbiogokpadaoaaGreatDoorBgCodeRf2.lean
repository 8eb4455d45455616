/- Printed by program: the small code of functions, and that it is theirs. -/
import Derived.Test.YtlbiogokpadaoaaGreatDoorSxStill
import Derived.Test.YtlbiogokpadaoaaGreatDoorProg
import Derived.KernelRfl
set_option linter.unusedSimpArgs false
set_option linter.unusedVariables false
set_option linter.unnecessarySimpa false
namespace Go.Proofs.YtlbiogokpadaoaaGreatDoor
open Go Go.Sx
set_option maxRecDepth 100000
def T91 (n:Nat):XC:=lkT n [
zw 5 .skip (.ops [zK 7 .eql 4 11,zm 5 7]),
zs [zf 8 2 1,zl 9 8,zx 10 (.buildS 3 1 1 [.int .i64 0] [(0,.t 9)]),zm 2 10] .ret,
zw 11 .skip (.ops [zK 18 .eql 4 10,zm 11 18]),
zs [zK 17 .eql 4 9,zm 11 17] (.ref 2),
zs [zK 16 .eql 4 8,zm 11 16] (zw 11 .skip (.ref 3)),
zs [zK 15 .eql 4 7,zm 11 15] (zw 11 .skip (.ref 4)),
zs [zK 14 .eql 4 6,zm 11 14] (zw 11 .skip (.ref 5)),
zs [zK 13 .eql 4 5,zm 11 13] (zw 11 .skip (.ref 6)),
zs [zf 19 2 1,zl 20 19,zf 21 3 1,zl 22 21,zx 23 (.buildS 3 2 1 [.int .i64 0] [(0,.t 20),(1,.t 22)]),zm 2 23] .ret,
zw 24 .skip (.ops [zK 28 .eql 4 16,zm 24 28]),
zs [zK 27 .eql 4 15,zm 24 27] (.ref 9),
zs [zK 26 .eql 4 14,zm 24 26] (zw 24 .skip (.ref 10)),
zs [zf 29 1 1,zl 30 29,zf 31 2 1,zl 32 31,zx 33 (.buildS 3 2 1 [.int .i64 0] [(0,.t 30),(1,.t 32)]),zm 2 33] .ret,
.seq (zs [zK 25 .eql 4 12,zm 24 25] (zw 24 .skip (.ref 11))) (zw 24 (.ref 12) .skip),
.seq (zs [zK 12 .eql 4 4,zm 11 12] (zw 11 .skip (.ref 7))) (zw 11 (.ref 8) (.ref 13)),
.blk 0 (.seq (zs [zK 6 .eql 4 3,zm 5 6] (.ref 0)) (zw 5 (.ref 1) (.ref 14))),
zs [zv 2 (.slice none 0 0)] .ret,
.seq (zs [zf 3 0 1,zl 4 3] (.ref 15)) (.ref 16)]
def X91:XC:=zs [zx 1 (.box 41 5 (.t 0)),zv 2 (.slice none 0 0)] (.ref 17)
abbrev K91:List Nat:=[0,1,2,4,5,11,24]
theorem n91:Tryz.f91.ntmps=34:=by kernel_rfl
theorem r91:resT Tryz.f91.results.toList=some [2]:=by kernel_rfl
theorem x91:cmpF Tryz.prog Tryz.f91=some (expand T91 19 X91):=by kernel_rfl
attribute [go_sem] X91 T91
def T95 (n:Nat):XC:=lkT n [
zs [zv 2 (.slice none 0 0),zv 3 (.int .i64 2)] .ret,
.ops [zm 86 11,zp 87 86,zm 11 87],
.seq (.blk 5 (.ops [zm 88 4,zm 89 6,zm 90 4,zm 91 6,zd 92 9 90 91,zx 93 (.idxA 9 1 (.t 92) (.i 5)),zL 94 [.bool] 93,zm 95 94,zh 96 95 false 9,zh 97 95 false 11,zg 98 95 false (.idx 2 (.t 96) (.t 97)),zg 99 95 false (.idxA 2 1 (.t 98) (.i 1)),zg 100 95 false (.load [.int .i64] false (.t 99)),zG 101 95 false .eql 100 1,zh 102 95 false 101,zh 103 102 true 9,zh 104 102 true 11,zg 105 102 true (.idx 2 (.t 103) (.t 104)),zg 106 102 true (.idxA 2 1 (.t 105) (.i 0)),zg 107 102 true (.load [.int .i64] false (.t 106)),zh 108 102 true 0,zg 109 102 true (.lenS (.t 108)),zg 110 102 true (.cmp .geq .i64 (.t 107) (.t 109)),zg 111 95 false (.pick (.t 102) (.t 110) (.const (.bool false))),zO 112 95 111,zd 113 9 88 89,zx 114 (.idxA 9 1 (.t 113) (.i 5)),zS 1 114 112])) (.ref 1),
.seq (zs [zm 82 11,zm 83 9,ze 84 83,zk 85 .lss 82 84] (zw 85 .skip (.exit 4))) (.ref 2),
.ops [zm 131 4,zm 132 6,zm 133 4,zm 134 6,zd 135 9 133 134,zx 136 (.idxA 9 1 (.t 135) (.i 6)),zL 137 [.bool] 136,zm 138 137,zh 139 138 false 13,zh 140 138 false 139,zg 141 140 true (.fld 4 (.t 12)),zg 142 140 true (.load [.int .i64] false (.t 141)),zG 143 140 true .lss 142 0,zh 144 140 true 143,zg 145 144 false (.fld 4 (.t 12)),zg 146 144 false (.load [.int .i64] false (.t 145)),zG 147 144 false .gtr 146 1024,zg 148 140 true (.pick (.t 144) (.const (.bool true)) (.t 147)),zg 149 138 false (.pick (.t 140) (.t 148) (.const (.bool false))),zO 150 138 149,zd 151 9 131 132,zx 152 (.idxA 9 1 (.t 151) (.i 6)),zS 1 152 150],
zs [zm 119 8,zK 120 .neq 119 1,zm 121 120,zg 122 121 true (.fld 0 (.t 12)),zg 123 121 true (.load [.int .i64] false (.t 122)),zG 124 121 true .geq 123 13,zA 125 121 124,zm 126 125,zg 127 126 true (.fld 0 (.t 12)),zg 128 126 true (.load [.int .i64] false (.t 127)),zG 129 126 true .leq 128 16,zA 130 126 129,zm 13 130] (.ref 4),
zs [zm 115 0,zm 116 6,zd 117 5 115 116,zi 118 117,zx 12 (.alloc 41 [.int .i64 0,.int .i64 0,.int .i64 0,.int .i64 0,.int .i64 0]),zS 5 12 118] (.ref 5),
.seq (zs [zv 11 (.int .i64 0)] (.blk 4 (.loop (.ref 3)))) (.ref 6),
zs [zm 76 0,zm 77 6,zm 78 7,zc 79 124 [.t 76,.t 77,.t 78],zm 75 79,zy 80 75 0,zy 81 75 1,zm 9 80,zm 10 81] (.ref 7),
zs [zm 70 4,zm 71 6,zm 72 8,zd 73 9 70 71,zx 74 (.idxA 9 1 (.t 73) (.t 72)),zn (.store 1 (.t 74) (.const (.bool true)))] (.ref 8),
zs [zm 66 0,zm 67 6,zm 68 7,zc 69 123 [.t 66,.t 67,.t 68],zm 8 69] (.ref 9),
.ops [zm 57 7,zp 58 57,zm 7 58],
.seq (.blk 3 (.seq (zs [zm 59 5,zm 60 6,zm 61 7,zd 62 2 59 60,zx 63 (.idxA 2 1 (.t 62) (.t 61)),zL 64 [.bool] 63,zx 65 (.not (.t 64))] (zw 65 (.exit 3) .skip)) (.ref 10))) (.ref 11),
.seq (zs [zm 55 7,zK 56 .lss 55 2] (zw 56 .skip (.exit 2))) (.ref 12),
zs [zv 7 (.int .i64 0)] (.blk 2 (.loop (.ref 13))),
.ops [zm 35 6,zp 36 35,zm 6 36],
.seq (.blk 1 (zs [zm 37 4,zm 38 6,zm 39 5,zm 40 6,zd 41 2 39 40,zx 42 (.idxA 2 1 (.t 41) (.i 0)),zL 43 [.bool] 42,zx 44 (.not (.t 43)),zm 45 44,zh 46 45 true 5,zh 47 45 true 6,zg 48 45 true (.idx 2 (.t 46) (.t 47)),zg 49 45 true (.idxA 2 1 (.t 48) (.i 1)),zg 50 45 true (.load [.bool] false (.t 49)),zg 51 45 true (.not (.t 50)),zA 52 45 51,zd 53 9 37 38,zx 54 (.idxA 9 1 (.t 53) (.i 8)),zS 1 54 52] (.ref 14))) (.ref 15),
.seq (zs [zm 31 6,zm 32 0,ze 33 32,zk 34 .lss 31 33] (zw 34 .skip (.exit 0))) (.ref 16),
.ops [zm 180 19,zp 181 180,zm 19 181],
.seq (.blk 11 (.ops [zm 182 4,zm 183 16,zm 184 4,zm 185 16,zd 186 9 184 185,zx 187 (.idxA 9 1 (.t 186) (.i 7)),zL 188 [.bool] 187,zm 189 188,zh 190 189 false 17,zh 191 189 false 190,zh 192 191 true 18,zh 193 191 true 19,zg 194 191 true (.idx 1 (.t 192) (.t 193)),zg 195 191 true (.load [.int .i64] false (.t 194)),zh 196 191 true 14,zg 197 191 true (.cmp .eql .i64 (.t 195) (.t 196)),zg 198 189 false (.pick (.t 191) (.t 197) (.const (.bool false))),zh 199 189 false 198,zh 200 199 true 15,zh 201 199 true 16,zg 202 199 true (.idx 2 (.t 200) (.t 201)),zg 203 199 true (.idxA 2 1 (.t 202) (.i 0)),zg 204 199 true (.load [.bool] false (.t 203)),zh 205 199 true 204,zh 206 205 false 15,zh 207 205 false 16,zg 208 205 false (.idx 2 (.t 206) (.t 207)),zg 209 205 false (.idxA 2 1 (.t 208) (.i 1)),zg 210 205 false (.load [.bool] false (.t 209)),zg 211 199 true (.pick (.t 205) (.const (.bool true)) (.t 210)),zg 212 189 false (.pick (.t 199) (.t 211) (.const (.bool false))),zO 213 189 212,zd 214 9 182 183,zx 215 (.idxA 9 1 (.t 214) (.i 7)),zS 1 215 213])) (.ref 18),
.seq (zs [zm 176 19,zm 177 18,ze 178 177,zk 179 .lss 176 178] (zw 179 .skip (.exit 10))) (.ref 19),
zs [zv 19 (.int .i64 0)] (.blk 10 (.loop (.ref 20))),
zs [zm 171 0,zm 172 16,zd 173 5 171 172,zi 174 173,zc 175 91 [.t 174],zm 18 175] (.ref 21),
.ops [zm 164 16,zp 165 164,zm 16 165],
.seq (.blk 9 (zs [zm 166 0,zm 167 16,zd 168 5 166 167,zi 169 168,zc 170 90 [.t 169],zm 17 170] (.ref 22))) (.ref 23),
.seq (zs [zm 160 16,zm 161 0,ze 162 161,zk 163 .lss 160 162] (zw 163 .skip (.exit 8))) (.ref 24),
zs [zv 16 (.int .i64 0)] (.blk 8 (.loop (.ref 25))),
.ops [zm 155 14,zp 156 155,zm 14 156],
.seq (.blk 7 (zs [zm 157 0,zm 158 14,zc 159 122 [.t 157,.t 158],zm 15 159] (.ref 26))) (.ref 27),
.seq (zs [zm 153 14,zK 154 .lss 153 8] (zw 154 .skip (.exit 6))) (.ref 28),
.ops [zm 232 20,zm 233 21,zm 234 22,zx 235 (.build [.int .i64 0,.int .i64 0] [(0,1,.t 233),(1,1,.t 234)]),zx 236 (.buildS 46 1 2 [.int .i64 0,.int .i64 0] [(0,.t 235)]),zx 237 (.app 46 2 16 (.t 232) (.t 236)),zm 20 237],
.ops [zm 224 22,zp 225 224,zm 22 225],
.seq (.blk 15 (zs [zm 226 4,zm 227 22,zm 228 21,zd 229 9 226 227,zx 230 (.idxA 9 1 (.t 229) (.t 228)),zL 231 [.bool] 230] (zw 231 (.ref 30) .skip))) (.ref 31),
.seq (zs [zm 220 22,zm 221 0,ze 222 221,zk 223 .lss 220 222] (zw 223 .skip (.exit 14))) (.ref 32),
.ops [zm 218 21,zp 219 218,zm 21 219],
.seq (.blk 13 (zs [zv 22 (.int .i64 0)] (.blk 14 (.loop (.ref 33))))) (.ref 34),
.seq (zs [zm 216 21,zK 217 .leq 216 8] (zw 217 .skip (.exit 12))) (.ref 35),
zs [zm 238 20,zm 2 238,zv 3 (.int .i64 0)] .ret,
.seq (zs [zv 21 (.int .i64 1)] (.blk 12 (.loop (.ref 36)))) (.ref 37),
zs [zv 20 (.slice none 0 0)] (.ref 38),
.seq (zs [zv 14 (.int .i64 0)] (.blk 6 (.loop (.ref 29)))) (.ref 39),
.seq (zs [zv 6 (.int .i64 0)] (.blk 0 (.loop (.ref 17)))) (.ref 40),
zs [zm 29 0,zc 30 122 [.t 29,.const (.int .i64 (-1))],zm 5 30] (.ref 41),
zs [zm 26 0,ze 27 26,zx 28 (.mkslc 180 9 9 [.bool false,.bool false,.bool false,.bool false,.bool false,.bool false,.bool false,.bool false,.bool false] (.t 27) (.t 27)),zm 4 28] (.ref 42),
.seq (zs [zm 23 0,ze 24 23,zK 25 .gtr 24 1024] (zw 25 (.ref 0) .skip)) (.ref 43)]
def X95:XC:=zs [zv 2 (.slice none 0 0),zv 3 (.int .i64 0)] (.ref 44)
abbrev K95:List Nat:=[0,2,3,4,5,6,7,8,9,11,12,13,14,15,16,17,18,19,20,21,22,25,34,56,65,85,154,163,179,217,223,231]
theorem n95:Tryz.f95.ntmps=239:=by kernel_rfl
theorem r95:resT Tryz.f95.results.toList=some [2,3]:=by kernel_rfl
theorem x95:cmpF Tryz.prog Tryz.f95=some (expand T95 46 X95):=by kernel_rfl
def T122 (n:Nat):XC:=lkT n [
.ops [zm 85 5,zm 86 10,zm 87 12,zd 88 2 86 87,zx 89 (.idxA 2 1 (.t 88) (.i 0)),zl 90 89,zm 91 10,zm 92 12,zd 93 2 91 92,zx 94 (.idxA 2 1 (.t 93) (.i 1)),zl 95 94,zd 96 2 85 90,zx 97 (.idxA 2 1 (.t 96) (.t 95)),zn (.store 1 (.t 97) (.const (.bool true)))],
.ops [zm 65 12,zp 66 65,zm 12 66],
.seq (.blk 7 (zs [zm 67 7,zm 68 67,zh 69 68 false 5,zh 70 68 false 10,zh 71 68 false 12,zg 72 68 false (.idx 2 (.t 70) (.t 71)),zg 73 68 false (.idxA 2 1 (.t 72) (.i 0)),zg 74 68 false (.load [.int .i64] false (.t 73)),zh 75 68 false 10,zh 76 68 false 12,zg 77 68 false (.idx 2 (.t 75) (.t 76)),zg 78 68 false (.idxA 2 1 (.t 77) (.i 1)),zg 79 68 false (.load [.int .i64] false (.t 78)),zg 80 68 false (.idx 2 (.t 69) (.t 74)),zg 81 68 false (.idxA 2 1 (.t 80) (.t 79)),zg 82 68 false (.load [.bool] false (.t 81)),zg 83 68 false (.not (.t 82)),zO 84 68 83,zm 7 84] (.ref 0))) (.ref 1),
.seq (zs [zm 61 12,zm 62 10,ze 63 62,zk 64 .lss 61 63] (zw 64 .skip (.exit 6))) (.ref 2),
zs [zv 12 (.int .i64 0)] (.blk 6 (.loop (.ref 3))),
zs [zm 55 0,zm 56 8,zm 57 9,zc 58 124 [.t 55,.t 56,.t 57],zm 54 58,zy 59 54 0,zy 60 54 1,zm 10 59,zm 11 60] (.ref 4),
.ops [zm 32 9,zp 33 32,zm 9 33],
.seq (.blk 5 (.seq (zs [zm 34 5,zm 35 8,zm 36 9,zd 37 2 34 35,zx 38 (.idxA 2 1 (.t 37) (.t 36)),zL 39 [.bool] 38,zx 40 (.not (.t 39)),zm 41 40,zh 42 41 false 1,zG 43 41 false .geq 42 0,zh 44 41 false 43,zh 45 44 true 0,zh 46 44 true 8,zg 47 44 true (.idx 5 (.t 45) (.t 46)),zg 48 44 true (.load [.int .i64,.int .i64,.int .i64,.int .i64,.int .i64] true (.t 47)),.mk (some 49) (some (44,true)) (.call 146 [.t 48]),zh 50 44 true 1,zg 51 44 true (.cmp .eql .i64 (.t 49) (.t 50)),zg 52 41 false (.pick (.t 44) (.t 51) (.const (.bool false))),zO 53 41 52] (zw 53 (.exit 5) .skip)) (.ref 5))) (.ref 6),
.seq (zs [zm 30 9,zK 31 .lss 30 2] (zw 31 .skip (.exit 4))) (.ref 7),
.ops [zm 28 8,zp 29 28,zm 8 29],
.seq (.blk 3 (zs [zv 9 (.int .i64 0)] (.blk 4 (.loop (.ref 8))))) (.ref 9),
.seq (zs [zm 24 8,zm 25 0,ze 26 25,zk 27 .lss 24 26] (zw 27 .skip (.exit 2))) (.ref 10),
zs [zm 98 7,zx 99 (.not (.t 98))] (zw 99 (.exit 0) .skip),
.seq (zs [zv 8 (.int .i64 0)] (.blk 2 (.loop (.ref 11)))) (.ref 12),
.ops [zm 22 6,zp 23 22,zm 6 23],
.seq (.blk 1 (zs [zv 7 (.bool false)] (.ref 13))) (.ref 14),
.seq (zs [zm 17 6,zm 18 0,ze 19 18,zx 20 (.arith .mul .i64 (.i 2) (.t 19)),zk 21 .leq 17 20] (zw 21 .skip (.exit 0))) (.ref 15),
zs [zm 100 5,zm 4 100] .ret,
.seq (zs [zv 6 (.int .i64 0)] (.blk 0 (.loop (.ref 16)))) (.ref 17),
zs [zm 14 5,zx 15 (.idx 2 (.t 14) (.i 0)),zx 16 (.idxA 2 1 (.t 15) (.i 0)),zn (.store 1 (.t 16) (.const (.bool true)))] (.ref 18),
zs [zx 13 (.mkslc 179 2 2 [.bool false,.bool false] (.i 1025) (.i 1025)),zm 5 13] (.ref 19)]
def X122:XC:=zs [zv 4 (.slice none 0 0)] (.ref 20)
abbrev K122:List Nat:=[0,1,4,5,6,7,8,9,10,12,21,27,31,53,64,99]
theorem n122:Tryz.f122.ntmps=101:=by kernel_rfl
theorem r122:resT Tryz.f122.results.toList=some [4]:=by kernel_rfl
theorem x122:cmpF Tryz.prog Tryz.f122=some (expand T122 22 X122):=by kernel_rfl
def T123 (n:Nat):XC:=lkT n [
zs [zv 6 (.int .i64 1)] .ret,
zs [zv 6 (.int .i64 2)] .ret,
zs [zv 6 (.int .i64 3)] .ret,
zs [zv 6 (.int .i64 4)] .ret,
zs [zf 35 0 7,zl 36 35,zK 37 .eql 36 1,zm 38 37,zh 39 38 true 2,zG 40 38 true .eql 39 1,zA 41 38 40,zm 34 41] (zw 34 (.ref 3) .skip),
zs [zf 27 0 7,zl 28 27,zK 29 .eql 28 17,zm 30 29,zh 31 30 true 2,zG 32 30 true .eql 31 1,zA 33 30 32,zm 26 33] (zw 26 (.ref 2) (.ref 4)),
zs [zf 19 0 7,zl 20 19,zK 21 .eql 20 18,zm 22 21,zh 23 22 true 2,zG 24 22 true .eql 23 0,zA 25 22 24,zm 18 25] (zw 18 (.ref 1) (.ref 5)),
zs [zv 6 (.int .i64 0)] .ret,
.seq (.blk 0 (zs [zm 16 8,zx 17 (.not (.t 16)),zm 15 17] (zw 15 (.ref 0) (.ref 6)))) (.ref 7),
zs [zi 13 7,zc 14 90 [.t 13],zm 8 14] (.ref 8),
zs [zm 9 0,zm 10 1,zd 11 5 9 10,zi 12 11,zx 7 (.alloc 41 [.int .i64 0,.int .i64 0,.int .i64 0,.int .i64 0,.int .i64 0]),zS 5 7 12] (.ref 9)]
def X123:XC:=zs [zv 6 (.int .i64 0)] (.ref 10)
abbrev K123:List Nat:=[0,1,2,6,7,8,15,18,26,34]
theorem n123:Tryz.f123.ntmps=42:=by kernel_rfl
theorem r123:resT Tryz.f123.results.toList=some [6]:=by kernel_rfl
theorem x123:cmpF Tryz.prog Tryz.f123=some (expand T123 12 X123):=by kernel_rfl
def T124 (n:Nat):XC:=lkT n [
zs [zv 6 (.slice none 0 0),zv 7 (.bool true)] .ret,
.ops [zm 75 11,zf 76 4 8,zl 77 76,zm 78 2,zx 79 (.build [.int .i64 0,.int .i64 0] [(0,1,.t 77),(1,1,.t 78)]),zx 80 (.buildS 185 1 2 [.int .i64 0,.int .i64 0] [(0,.t 79)]),zx 81 (.app 185 2 16 (.t 75) (.t 80)),zm 11 81],
zs [zm 85 11,zm 6 85,zv 7 (.bool true)] .ret,
zs [zf 82 0 8,zl 83 82,zK 84 .eql 83 13] (zw 84 (.ref 2) .skip),
.seq (zs [zf 67 4 8,zl 68 67,zK 69 .geq 68 0,zm 70 69,zg 71 70 true (.fld 4 (.t 8)),zg 72 70 true (.load [.int .i64] false (.t 71)),zG 73 70 true .leq 72 1024,zA 74 70 73] (zw 74 (.ref 1) .skip)) (.ref 3),
zs [zf 59 0 8,zl 60 59,zK 61 .geq 60 13,zm 62 61,zg 63 62 true (.fld 0 (.t 8)),zg 64 62 true (.load [.int .i64] false (.t 63)),zG 65 62 true .leq 64 16,zA 66 62 65,zm 58 66] (zw 58 (.ref 4) .skip),
zw 53 (.ops [zx 57 (.idxA 2 1 (.t 10) (.i 1)),zn (.store 1 (.t 57) (.i 0))]) (.ref 5),
zs [zf 54 0 8,zl 55 54,zK 56 .eql 55 18,zm 53 56] (.ref 6),
zw 48 (.ops [zx 52 (.idxA 2 1 (.t 10) (.i 1)),zn (.store 1 (.t 52) (.i 1))]) (.ref 7),
zs [zf 49 0 8,zl 50 49,zK 51 .eql 50 17,zm 48 51] (.ref 8),
zs [zm 86 11,zx 87 (.load [.int .i64,.int .i64] true (.t 10)),zx 88 (.buildS 185 1 2 [.int .i64 0,.int .i64 0] [(0,.t 87)]),zx 89 (.app 185 2 16 (.t 86) (.t 88)),zm 6 89,zv 7 (.bool true)] .ret,
.seq (.blk 0 (zs [zm 23 9,zx 24 (.not (.t 23)),zm 25 24,zg 26 25 false (.fld 0 (.t 8)),zg 27 25 false (.load [.int .i64] false (.t 26)),zG 28 25 false .eql 27 1,zO 29 25 28,zm 30 29,zg 31 30 false (.fld 0 (.t 8)),zg 32 30 false (.load [.int .i64] false (.t 31)),zG 33 30 false .eql 32 17,zh 34 30 false 33,zh 35 34 true 2,zG 36 34 true .eql 35 1,zg 37 30 false (.pick (.t 34) (.t 36) (.const (.bool false))),zO 38 30 37,zm 39 38,zg 40 39 false (.fld 0 (.t 8)),zg 41 39 false (.load [.int .i64] false (.t 40)),zG 42 39 false .eql 41 18,zh 43 39 false 42,zh 44 43 true 2,zG 45 43 true .eql 44 0,zg 46 39 false (.pick (.t 43) (.t 45) (.const (.bool false))),zO 47 39 46,zm 22 47] (zw 22 (.ref 0) (.ref 9)))) (.ref 10),
zs [zv 11 (.slice none 0 0)] (.ref 11),
zs [zm 18 1,zp 19 18,zm 20 2,zx 21 (.build [.int .i64 0,.int .i64 0] [(0,1,.t 19),(1,1,.t 20)]),zx 10 (.alloc 185 [.int .i64 0,.int .i64 0]),zS 2 10 21] (.ref 12),
zs [zi 16 8,zc 17 90 [.t 16],zm 9 17] (.ref 13),
zs [zm 12 0,zm 13 1,zd 14 5 12 13,zi 15 14,zx 8 (.alloc 41 [.int .i64 0,.int .i64 0,.int .i64 0,.int .i64 0,.int .i64 0]),zS 5 8 15] (.ref 14)]
def X124:XC:=zs [zv 6 (.slice none 0 0),zv 7 (.bool false)] (.ref 15)
abbrev K124:List Nat:=[0,1,2,6,7,8,9,10,11,22,48,53,58,74,84]
theorem n124:Tryz.f124.ntmps=90:=by kernel_rfl
theorem r124:resT Tryz.f124.results.toList=some [6,7]:=by kernel_rfl
theorem x124:cmpF Tryz.prog Tryz.f124=some (expand T124 17 X124):=by kernel_rfl
def T146 (n:Nat):XC:=lkT n [
zs [zf 11 1 1,zl 12 11,zm 2 12] .ret,
zs [zv 2 (.int .i64 (-1))] .ret,
.seq (zs [zf 3 0 1,zl 4 3,zK 5 .geq 4 2,zm 6 5,zg 7 6 true (.fld 0 (.t 1)),zg 8 6 true (.load [.int .i64] false (.t 7)),zG 9 6 true .leq 8 11,zA 10 6 9] (zw 10 (.ref 0) .skip)) (.ref 1)]
def X146:XC:=zs [zx 1 (.box 41 5 (.t 0)),zv 2 (.int .i64 0)] (.ref 2)
abbrev K146:List Nat:=[0,1,2,10]
theorem n146:Tryz.f146.ntmps=13:=by kernel_rfl
theorem r146:resT Tryz.f146.results.toList=some [2]:=by kernel_rfl
theorem x146:cmpF Tryz.prog Tryz.f146=some (expand T146 4 X146):=by kernel_rfl
attribute [go_sem] X95 T95
attribute [go_sem] X122 T122
attribute [go_sem] X123 T123
attribute [go_sem] X124 T124
attribute [go_sem] X146 T146
end Go.Proofs.YtlbiogokpadaoaaGreatDoor
