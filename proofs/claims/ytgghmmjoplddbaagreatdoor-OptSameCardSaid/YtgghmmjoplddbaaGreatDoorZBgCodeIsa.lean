/- Printed by program: the small code of functions, and that it is theirs. -/
import Derived.Test.YtgghmmjoplddbaaGreatDoorSxStill
import Derived.Test.YtgghmmjoplddbaaGreatDoorProg
import Derived.KernelRfl
set_option linter.unusedSimpArgs false
set_option linter.unusedVariables false
set_option linter.unnecessarySimpa false
namespace Go.Proofs.YtgghmmjoplddbaaGreatDoor
open Go Go.Sx
set_option maxRecDepth 100000
def T11 (n:Nat):XC:=lkT n [
zs [zv 2 (.bool false)] .ret,
zs [zm 24 3,zm 25 5,zx 26 (.ixT (.const (.string (ByteArray.mk (Array.mk [UInt8.ofNat 65,UInt8.ofNat 66,UInt8.ofNat 67])))) (.t 25)),zc 27 31 [.t 24,.t 26],zK 28 .geq 27 0,zm 29 28,zh 30 29 true 6,zG 31 29 true .lss 30 0,zh 32 29 true 31,zh 33 32 false 6,zG 34 32 false .geq 33 8,zg 35 29 true (.pick (.t 32) (.const (.bool true)) (.t 34)),zA 36 29 35] (zw 36 (.ref 0) .skip),
.seq (.blk 1 (zs [zm 22 20,zx 23 (.ixA 3 1 false (.t 19) (.t 20)),zm 5 22,zm 6 23] (.ref 1))) (.ops [zp 37 20,zm 20 37]),
.seq (zw 21 .skip (.exit 0)) (.ref 2),
zs [zK 21 .lss 20 3] (.ref 3),
zs [zm 38 4,zm 2 38] .ret,
.seq (zs [zf 13 1 1,zl 14 13,zf 15 2 1,zl 16 15,zf 17 3 1,zl 18 17,zx 19 (.build [.int .i64 0,.int .i64 0,.int .i64 0] [(0,1,.t 14),(1,1,.t 16),(2,1,.t 18)]),zv 20 (.int .i64 0)] (.blk 0 (.loop (.ref 4)))) (.ref 5),
zs [zf 8 0 1,zl 9 8,zc 10 30 [.t 9],zm 7 10,zy 11 7 0,zy 12 7 1,zm 3 11,zm 4 12] (.ref 6)]
def X11:XC:=zs [zx 1 (.box 47 5 (.t 0)),zv 2 (.bool false)] (.ref 7)
abbrev K11:List Nat:=[0,1,2,3,4,5,6,19,20,21,36]
theorem n11:Tryz.f11.ntmps=39:=by kernel_rfl
theorem r11:resT Tryz.f11.results.toList=some [2]:=by kernel_rfl
theorem x11:cmpF Tryz.prog Tryz.f11=some (expand T11 9 X11):=by kernel_rfl
def T30 (n:Nat):XC:=lkT n [
zs [zx 2 (.mov (.const (.string (ByteArray.mk (Array.mk []))))),zv 3 (.bool false)] .ret,
zs [zm 10 0,zx 11 (.idxA 19 2 (.global 0) (.t 10)),zf 12 1 11,zL 13 [.str] 12,zm 2 13,zv 3 (.bool true)] .ret,
.seq (zs [zm 4 0,zK 5 .lss 4 1,zm 6 5,zh 7 6 false 0,zG 8 6 false .geq 7 19,zO 9 6 8] (zw 9 (.ref 0) .skip)) (.ref 1)]
def X30:XC:=zs [zx 2 (.mov (.const (.string (ByteArray.mk (Array.mk []))))),zv 3 (.bool false)] (.ref 2)
abbrev K30:List Nat:=[0,2,3,9]
theorem n30:Tryz.f30.ntmps=14:=by kernel_rfl
theorem r30:resT Tryz.f30.results.toList=some [2,3]:=by kernel_rfl
theorem x30:cmpF Tryz.prog Tryz.f30=some (expand T30 4 X30):=by kernel_rfl
def T31 (n:Nat):XC:=lkT n [
zs [zm 5 0,zm 6 1,zc 7 53 [.t 5,.t 6],zm 4 7] .ret]
def X31:XC:=zs [zv 4 (.int .i64 0)] (.ref 0)
abbrev K31:List Nat:=[0,1,4]
theorem n31:Tryz.f31.ntmps=8:=by kernel_rfl
theorem r31:resT Tryz.f31.results.toList=some [4]:=by kernel_rfl
theorem x31:cmpF Tryz.prog Tryz.f31=some (expand T31 2 X31):=by kernel_rfl
def T53 (n:Nat):XC:=lkT n [
zs [zm 5 0,zm 6 1,zx 7 (.lib 0 [.t 5,.t 6]),zm 4 7] .ret]
def X53:XC:=zs [zv 4 (.int .i64 0)] (.ref 0)
abbrev K53:List Nat:=[0,1,4]
theorem n53:Tryz.f53.ntmps=8:=by kernel_rfl
theorem r53:resT Tryz.f53.results.toList=some [4]:=by kernel_rfl
theorem x53:cmpF Tryz.prog Tryz.f53=some (expand T53 2 X53):=by kernel_rfl
def T27 (n:Nat):XC:=lkT n [
zs [zx 26 (.build [.int .i64 0,.int .i64 0,.int .i64 0,.int .u64 0,.int .u64 0] []),zS 5 6 26] .ret,
zs [zm 52 9,.mk (some 53) none (.callv (.t 52) [.i 7]),zS 5 6 53] .ret,
zs [zm 56 7,zf 57 4 3,zl 58 57,zx 59 (.conv .u64 (.t 58)),.mk (some 60) none (.callv (.t 56) [.t 59]),zS 5 6 60] .ret,
zs [zm 63 7,zm 64 12,.mk (some 65) none (.callv (.t 63) [.t 64]),zS 5 6 65] .ret,
zs [zm 68 7,zm 69 12,zm 70 13,zx 71 (.arith .add .u64 (.t 69) (.t 70)),.mk (some 72) none (.callv (.t 68) [.t 71]),zS 5 6 72] .ret,
zs [zm 75 7,zm 76 12,zm 77 13,zx 78 (.arith .sub .u64 (.t 76) (.t 77)),.mk (some 79) none (.callv (.t 75) [.t 78]),zS 5 6 79] .ret,
zs [zm 82 7,zm 83 12,zm 84 13,zx 85 (.arith .mul .u64 (.t 83) (.t 84)),.mk (some 86) none (.callv (.t 82) [.t 85]),zS 5 6 86] .ret,
zs [zm 89 7,zm 90 12,zm 91 13,zx 92 (.bits .and .u64 (.t 90) (.t 91)),.mk (some 93) none (.callv (.t 89) [.t 92]),zS 5 6 93] .ret,
zs [zm 96 7,zm 97 12,zm 98 13,zx 99 (.bits .xor .u64 (.t 97) (.t 98)),.mk (some 100) none (.callv (.t 96) [.t 99]),zS 5 6 100] .ret,
zs [zm 103 7,zm 104 12,zm 105 13,zx 106 (.div .rem .u64 (.t 105) (.const (.int .u64 64))),zx 107 (.shift .shl .u64 (.t 104) (.t 106)),.mk (some 108) none (.callv (.t 103) [.t 107]),zS 5 6 108] .ret,
zs [zm 111 7,zm 112 12,zm 113 13,zx 114 (.div .rem .u64 (.t 113) (.const (.int .u64 64))),zx 115 (.shift .shr .u64 (.t 112) (.t 114)),.mk (some 116) none (.callv (.t 111) [.t 115]),zS 5 6 116] .ret,
zs [zl 119 5,zp 120 119,zf 121 1 3,zl 122 121,zm 123 14,zx 124 (.build [.int .i64 0,.int .i64 0,.int .i64 0,.int .u64 0,.int .u64 0] [(0,1,.i 3),(1,1,.t 120),(2,1,.t 122),(4,1,.t 123)]),zS 5 6 124] .ret,
zs [zl 127 5,zp 128 127,zm 129 11,zm 130 14,zx 131 (.build [.int .i64 0,.int .i64 0,.int .i64 0,.int .u64 0,.int .u64 0] [(0,1,.i 4),(1,1,.t 128),(3,1,.t 129),(4,1,.t 130)]),zS 5 6 131] .ret,
zs [zm 134 8,.mk (some 135) none (.callv (.t 134) [.const (.bool true)]),zS 5 6 135] .ret,
zs [zm 138 8,zm 139 11,zm 140 12,zx 141 (.cmp .eql .u64 (.t 139) (.t 140)),.mk (some 142) none (.callv (.t 138) [.t 141]),zS 5 6 142] .ret,
zs [zm 145 8,zm 146 11,zm 147 12,zx 148 (.cmp .neq .u64 (.t 146) (.t 147)),.mk (some 149) none (.callv (.t 145) [.t 148]),zS 5 6 149] .ret,
zs [zm 152 8,zm 153 11,zm 154 12,zx 155 (.cmp .lss .u64 (.t 153) (.t 154)),.mk (some 156) none (.callv (.t 152) [.t 155]),zS 5 6 156] .ret,
zs [zm 159 9,.mk (some 160) none (.callv (.t 159) [.i 5]),zS 5 6 160] .ret,
zs [zK 158 .eql 49 17,zm 157 158] (zw 157 (.ref 17) .skip),
zs [zK 151 .eql 49 16,zm 150 151] (zw 150 (.ref 16) (.ref 18)),
zs [zK 144 .eql 49 15,zm 143 144] (zw 143 (.ref 15) (.ref 19)),
zs [zK 137 .eql 49 14,zm 136 137] (zw 136 (.ref 14) (.ref 20)),
zs [zK 133 .eql 49 13,zm 132 133] (zw 132 (.ref 13) (.ref 21)),
zs [zK 126 .eql 49 12,zm 125 126] (zw 125 (.ref 12) (.ref 22)),
zs [zK 118 .eql 49 11,zm 117 118] (zw 117 (.ref 11) (.ref 23)),
zs [zK 110 .eql 49 10,zm 109 110] (zw 109 (.ref 10) (.ref 24)),
zs [zK 102 .eql 49 9,zm 101 102] (zw 101 (.ref 9) (.ref 25)),
zs [zK 95 .eql 49 8,zm 94 95] (zw 94 (.ref 8) (.ref 26)),
zs [zK 88 .eql 49 7,zm 87 88] (zw 87 (.ref 7) (.ref 27)),
zs [zK 81 .eql 49 6,zm 80 81] (zw 80 (.ref 6) (.ref 28)),
zs [zK 74 .eql 49 5,zm 73 74] (zw 73 (.ref 5) (.ref 29)),
zs [zK 67 .eql 49 4,zm 66 67] (zw 66 (.ref 4) (.ref 30)),
zs [zK 62 .eql 49 3,zm 61 62] (zw 61 (.ref 3) (.ref 31)),
zs [zK 55 .eql 49 2,zm 54 55] (zw 54 (.ref 2) (.ref 32)),
.blk 0 (zs [zK 51 .eql 49 1,zm 50 51] (zw 50 (.ref 1) (.ref 33))),
zs [zm 161 9,.mk (some 162) none (.callv (.t 161) [.i 6]),zS 5 6 162] .ret,
.seq (zs [zf 48 0 3,zl 49 48] (.ref 34)) (.ref 35),
zs [zm 43 12,zf 44 4 3,zl 45 44,zx 46 (.conv .u64 (.t 45)),zx 47 (.arith .add .u64 (.t 43) (.t 46)),zm 14 47] (.ref 36),
zs [zm 31 10,zf 32 1 3,zm 35 10,zf 36 2 3,zm 39 10,zf 40 3 3,zl 33 32,zl 37 36,zl 41 40,.mk (some 34) none (.callv (.t 31) [.t 33]),.mk none none (.still 41 (.load [.int .i64] false (.t 40))),.mk none none (.still 37 (.load [.int .i64] false (.t 36))),.mk (some 38) none (.callv (.t 35) [.t 37]),.mk none none (.still 41 (.load [.int .i64] false (.t 40))),.mk (some 42) none (.callv (.t 39) [.t 41]),zm 11 34,zm 12 38,zm 13 42] (.ref 37),
zs [zx 30 (.mkfn (.func 51) [] [.t 4]),zm 10 30] (.ref 38),
zs [zx 29 (.mkfn (.func 50) [] [.t 5]),zm 9 29] (.ref 39),
zs [zx 28 (.mkfn (.func 49) [] [.t 5,.t 3]),zm 8 28] (.ref 40),
zs [zx 27 (.mkfn (.func 48) [] [.t 5,.t 3]),zm 7 27] (.ref 41),
.seq (zs [zi 15 3,zc 16 11 [.t 15],zx 17 (.not (.t 16)),zm 18 17,zg 19 18 false (.load [.int .i64] false (.t 5)),zG 20 18 false .lss 19 0,zO 21 18 20,zm 22 21,zg 23 22 false (.load [.int .i64] false (.t 5)),zG 24 22 false .geq 23 1024,zO 25 22 24] (zw 25 (.ref 0) .skip)) (.ref 42)]
def X27:XC:=zs [zx 3 (.box 47 5 (.t 0)),zx 4 (.box 24 8 (.t 1)),zx 5 (.box 3 1 (.t 2)),zx 6 (.alloc 39 [.int .i64 0,.int .i64 0,.int .i64 0,.int .u64 0,.int .u64 0])] (.ref 43)
abbrev K27:List Nat:=[0,1,2,3,4,5,6,7,8,9,10,11,12,13,14,25,49,50,54,61,66,73,80,87,94,101,109,117,125,132,136,143,150,157]
theorem n27:Tryz.f27.ntmps=163:=by kernel_rfl
theorem r27:rvOf Tryz.prog Tryz.f27.results.toList=some [RV.cell 6 5 true]:=by kernel_rfl
theorem x27:cmpF Tryz.prog Tryz.f27=some (expand T27 45 X27):=by kernel_rfl
def T48 (n:Nat):XC:=lkT n [
zs [zl 5 1,zp 6 5,zf 7 1 2,zl 8 7,zm 9 0,zx 10 (.build [.int .i64 0,.int .i64 0,.int .i64 0,.int .u64 0,.int .u64 0] [(0,1,.i 1),(1,1,.t 6),(2,1,.t 8),(3,1,.t 9)]),zS 5 4 10] .ret]
def X48:XC:=zs [zx 4 (.alloc 39 [.int .i64 0,.int .i64 0,.int .i64 0,.int .u64 0,.int .u64 0])] (.ref 0)
abbrev K48:List Nat:=[0,1,2,4]
theorem n48:Tryz.f48.ntmps=11:=by kernel_rfl
theorem r48:rvOf Tryz.prog Tryz.f48.results.toList=some [RV.cell 4 5 true]:=by kernel_rfl
theorem x48:cmpF Tryz.prog Tryz.f48=some (expand T48 2 X48):=by kernel_rfl
def T49 (n:Nat):XC:=lkT n [
zs [zl 7 1,zp 8 7,zx 9 (.build [.int .i64 0,.int .i64 0,.int .i64 0,.int .u64 0,.int .u64 0] [(0,1,.i 2),(1,1,.t 8)]),zS 5 4 9] .ret,
zs [zx 18 (.build [.int .i64 0,.int .i64 0,.int .i64 0,.int .u64 0,.int .u64 0] []),zS 5 4 18] .ret,
zs [zf 19 4 2,zl 20 19,zx 21 (.build [.int .i64 0,.int .i64 0,.int .i64 0,.int .u64 0,.int .u64 0] [(0,1,.i 2),(1,1,.t 20)]),zS 5 4 21] .ret,
.seq (zs [zf 10 4 2,zl 11 10,zK 12 .lss 11 0,zm 13 12,zg 14 13 false (.fld 4 (.t 2)),zg 15 13 false (.load [.int .i64] false (.t 14)),zG 16 13 false .gtr 15 1024,zO 17 13 16] (zw 17 (.ref 1) .skip)) (.ref 2),
.seq (zs [zm 5 0,zx 6 (.not (.t 5))] (zw 6 (.ref 0) .skip)) (.ref 3)]
def X49:XC:=zs [zx 4 (.alloc 39 [.int .i64 0,.int .i64 0,.int .i64 0,.int .u64 0,.int .u64 0])] (.ref 4)
abbrev K49:List Nat:=[0,1,2,4,6,17]
theorem n49:Tryz.f49.ntmps=22:=by kernel_rfl
theorem r49:rvOf Tryz.prog Tryz.f49.results.toList=some [RV.cell 4 5 true]:=by kernel_rfl
theorem x49:cmpF Tryz.prog Tryz.f49=some (expand T49 6 X49):=by kernel_rfl
def T50 (n:Nat):XC:=lkT n [
zs [zm 4 0,zl 5 1,zp 6 5,zx 7 (.build [.int .i64 0,.int .i64 0,.int .i64 0,.int .u64 0,.int .u64 0] [(0,1,.t 4),(1,1,.t 6)]),zS 5 3 7] .ret]
def X50:XC:=zs [zx 3 (.alloc 39 [.int .i64 0,.int .i64 0,.int .i64 0,.int .u64 0,.int .u64 0])] (.ref 0)
abbrev K50:List Nat:=[0,1,3]
theorem n50:Tryz.f50.ntmps=8:=by kernel_rfl
theorem r50:rvOf Tryz.prog Tryz.f50.results.toList=some [RV.cell 3 5 true]:=by kernel_rfl
theorem x50:cmpF Tryz.prog Tryz.f50=some (expand T50 2 X50):=by kernel_rfl
def T51 (n:Nat):XC:=lkT n [
zs [zm 4 0,zx 5 (.bits .and .i64 (.t 4) (.i 7)),zx 6 (.idxA 8 1 (.t 1) (.t 5)),zL 7 [.int .u64] 6,zm 3 7] .ret]
def X51:XC:=zs [zv 3 (.int .u64 0)] (.ref 0)
abbrev K51:List Nat:=[0,1,3]
theorem n51:Tryz.f51.ntmps=8:=by kernel_rfl
theorem r51:resT Tryz.f51.results.toList=some [3]:=by kernel_rfl
theorem x51:cmpF Tryz.prog Tryz.f51=some (expand T51 2 X51):=by kernel_rfl
attribute [go_sem] X11 T11
attribute [go_sem] X30 T30
attribute [go_sem] X31 T31
attribute [go_sem] X53 T53
attribute [go_sem] X27 T27
attribute [go_sem] X48 T48
attribute [go_sem] X49 T49
attribute [go_sem] X50 T50
attribute [go_sem] X51 T51
def T16 (n:Nat):XC:=lkT n [
zs [zm 9 1,zc 10 35 [.t 9],zy 11 10 0,zy 12 10 1,zm 4 11,zm 5 12] .ret,
zs [zm 15 1,zc 16 36 [.t 15],zy 17 16 0,zy 18 16 1,zm 4 17,zm 5 18] .ret,
zs [zm 21 1,zc 22 37 [.t 21],zy 23 22 0,zy 24 22 1,zm 4 23,zm 5 24] .ret,
zs [zm 27 1,zc 28 38 [.t 27],zy 29 28 0,zy 30 28 1,zm 4 29,zm 5 30] .ret,
zs [zK 26 .eql 6 3,zm 25 26] (zw 25 (.ref 3) .skip),
zs [zK 20 .eql 6 2,zm 19 20] (zw 19 (.ref 2) (.ref 4)),
zs [zK 14 .eql 6 1,zm 13 14] (zw 13 (.ref 1) (.ref 5)),
.blk 0 (zs [zK 8 .eql 6 0,zm 7 8] (zw 7 (.ref 0) (.ref 6))),
zs [zm 31 1,zc 32 39 [.t 31],zy 33 32 0,zy 34 32 1,zm 4 33,zm 5 34] .ret,
.seq (zs [zm 6 0] (.ref 7)) (.ref 8)]
def X16:XC:=zs [zv 4 (.slice none 0 0),zv 5 (.int .i64 0)] (.ref 9)
abbrev K16:List Nat:=[0,1,4,5,6,7,13,19,25]
theorem n16:Tryz.f16.ntmps=35:=by kernel_rfl
theorem r16:resT Tryz.f16.results.toList=some [4,5]:=by kernel_rfl
theorem x16:cmpF Tryz.prog Tryz.f16=some (expand T16 11 X16):=by kernel_rfl
def T59 (n:Nat):XC:=lkT n [
zs [zv 2 (.slice none 0 0)] .ret,
zs [zx 5 (.buildS 47 0 5 [.int .i64 0,.int .i64 0,.int .i64 0,.int .i64 0,.int .i64 0] []),zm 6 0,zx 7 (.app 47 5 40 (.t 5) (.t 6)),zm 2 7] .ret,
.seq (zs [zm 3 0,zx 4 (.isnil NK.s false (.t 3))] (zw 4 (.ref 0) .skip)) (.ref 1)]
def X59:XC:=zs [zv 2 (.slice none 0 0)] (.ref 2)
abbrev K59:List Nat:=[0,2,4]
theorem n59:Tryz.f59.ntmps=8:=by kernel_rfl
theorem r59:resT Tryz.f59.results.toList=some [2]:=by kernel_rfl
theorem x59:cmpF Tryz.prog Tryz.f59=some (expand T59 4 X59):=by kernel_rfl
def T36n13:XC:=.seq (.blk 1 (.seq (.ops [zm 24 22,zd 25 5 20 22,zi 26 25,zx 6 (.alloc 47 [.int .i64 0,.int .i64 0,.int .i64 0,.int .i64 0,.int .i64 0]),zm 5 24,zn (.store 5 (.tmp 6) (.tmp 26))]) (.ref 12))) (.ops [zp 81 22,zm 22 81])
def T36 (n:Nat):XC:=lkT n [
zs [zv 2 (.slice none 0 0),zv 3 (.int .i64 2)] .ret,
zs [zm 66 11,zx 67 (.not (.t 66)),zm 68 67,zh 69 68 false 14,zO 70 68 69] (zw 70 (.exit 2) .skip),
.ops [zm 71 0,zm 72 10,zd 73 5 71 72,zf 74 4 73,zl 75 74,zm 10 75],
.seq (zs [zm 57 9,zm 58 0,zm 59 10,zd 60 5 58 59,zf 61 4 60,zl 62 61,zx 63 (.lkup (.int .i64) (.agg (Array.mk [])) true (.t 57) (.t 62)),zm 56 63,zy 64 56 0,zy 65 56 1,zx 13 (.alloc 132 []),zn (.str0 (.t 13) (.t 64)),zm 14 65] (.ref 1)) (.ref 2),
zs [zm 49 0,zm 50 10,zd 51 5 49 50,zi 52 51,zc 53 61 [.t 52],zm 48 53,zy 54 48 0,zy 55 48 1,zm 11 54,zm 12 55] (.ref 3),
.blk 3 (zs [zm 45 9,zm 46 10,zx 47 (.build [] []),zn (.mupd (.int .i64) (.t 45) (.t 46) (.t 47))] (.ref 4)),
.seq (zs [zm 41 10,zm 42 0,ze 43 42,zk 44 .lss 41 43] (zw 44 .skip (.exit 2))) (.ref 5),
.ops [zm 76 4,zm 77 5,zm 78 10,zd 79 5 76 77,zf 80 4 79,zS 1 80 78],
.seq (.blk 2 (.loop (.ref 6))) (.ref 7),
zs [zf 39 4 6,zl 40 39,zm 10 40] (.ref 8),
zs [.mk (some 38) none (.k .mkmap),zm 9 38] (.ref 9),
.seq (zs [zm 32 7,zx 33 (.not (.t 32)),zm 34 33,zh 35 34 true 8,zg 36 34 true (.not (.t 35)),zA 37 34 36] (zw 37 (.exit 1) .skip)) (.ref 10),
zs [zi 28 6,zc 29 61 [.t 28],zm 27 29,zy 30 27 0,zy 31 27 1,zm 7 30,zm 8 31] (.ref 11),
T36n13,
.seq (zw 23 .skip (.exit 0)) (.ref 13),
zs [zk 23 .lss 22 21] (.ref 14),
zs [zm 82 4,zm 2 82,zv 3 (.int .i64 0)] .ret,
.seq (zs [zm 20 0,ze 21 20,zv 22 (.int .i64 0)] (.blk 0 (.loop (.ref 15)))) (.ref 16),
zs [zm 18 0,zc 19 59 [.t 18],zm 4 19] (.ref 17),
.seq (zs [zm 15 0,ze 16 15,zK 17 .gtr 16 1024] (zw 17 (.ref 0) .skip)) (.ref 18)]
def X36:XC:=zs [zv 2 (.slice none 0 0),zv 3 (.int .i64 0)] (.ref 19)
abbrev K36:List Nat:=[0,2,3,4,5,6,7,8,9,10,11,14,17,20,21,22,23,37,44,70]
theorem n36:Tryz.f36.ntmps=83:=by kernel_rfl
theorem r36:resT Tryz.f36.results.toList=some [2,3]:=by kernel_rfl
theorem x36:cmpF Tryz.prog Tryz.f36=some (expand T36 21 X36):=by kernel_rfl
def T61 (n:Nat):XC:=lkT n [
zs [zv 2 (.bool false),zv 3 (.bool false)] .ret,
zs [zf 17 0 1,zl 18 17,zK 19 .eql 18 13,zf 20 0 1,zl 21 20,zK 22 .geq 21 14,zm 23 22,zg 24 23 true (.fld 0 (.t 1)),zg 25 23 true (.load [.int .i64] false (.t 24)),zG 26 23 true .leq 25 16,zA 27 23 26,zm 2 19,zm 3 27] .ret,
.seq (zs [zi 4 1,zc 5 11 [.t 4],zx 6 (.not (.t 5)),zm 7 6,zg 8 7 false (.fld 4 (.t 1)),zg 9 7 false (.load [.int .i64] false (.t 8)),zG 10 7 false .lss 9 0,zO 11 7 10,zm 12 11,zg 13 12 false (.fld 4 (.t 1)),zg 14 12 false (.load [.int .i64] false (.t 13)),zG 15 12 false .gtr 14 1024,zO 16 12 15] (zw 16 (.ref 0) .skip)) (.ref 1)]
def X61:XC:=zs [zx 1 (.box 47 5 (.t 0)),zv 2 (.bool false),zv 3 (.bool false)] (.ref 2)
abbrev K61:List Nat:=[0,1,2,3,16]
theorem n61:Tryz.f61.ntmps=28:=by kernel_rfl
theorem r61:resT Tryz.f61.results.toList=some [2,3]:=by kernel_rfl
theorem x61:cmpF Tryz.prog Tryz.f61=some (expand T61 4 X61):=by kernel_rfl
attribute [go_sem] X16 T16
attribute [go_sem] X59 T59
attribute [go_sem] T36n13 X36 T36
attribute [go_sem] X61 T61
end Go.Proofs.YtgghmmjoplddbaaGreatDoor
