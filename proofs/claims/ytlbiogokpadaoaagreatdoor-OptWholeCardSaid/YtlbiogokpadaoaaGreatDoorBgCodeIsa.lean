/- Printed by program: the small code of functions, and that it is theirs. -/
import Derived.Test.YtlbiogokpadaoaaGreatDoorSxStill
import Derived.Test.YtlbiogokpadaoaaGreatDoorProg
import Derived.KernelRfl
set_option linter.unusedSimpArgs false
set_option linter.unusedVariables false
set_option linter.unnecessarySimpa false
namespace Go.Proofs.YtlbiogokpadaoaaGreatDoor
open Go Go.Sx
set_option maxRecDepth 100000
def T21 (n:Nat):XC:=lkT n [
zs [zv 2 (.bool false)] .ret,
zs [zm 24 3,zm 25 5,zx 26 (.ixT (.const (.string (ByteArray.mk (Array.mk [UInt8.ofNat 65,UInt8.ofNat 66,UInt8.ofNat 67])))) (.t 25)),zc 27 38 [.t 24,.t 26],zK 28 .geq 27 0,zm 29 28,zh 30 29 true 6,zG 31 29 true .lss 30 0,zh 32 29 true 31,zh 33 32 false 6,zG 34 32 false .geq 33 8,zg 35 29 true (.pick (.t 32) (.const (.bool true)) (.t 34)),zA 36 29 35] (zw 36 (.ref 0) .skip),
.seq (.blk 1 (zs [zm 22 20,zx 23 (.ixA 3 1 false (.t 19) (.t 20)),zm 5 22,zm 6 23] (.ref 1))) (.ops [zp 37 20,zm 20 37]),
.seq (zw 21 .skip (.exit 0)) (.ref 2),
zs [zK 21 .lss 20 3] (.ref 3),
zs [zm 38 4,zm 2 38] .ret,
.seq (zs [zf 13 1 1,zl 14 13,zf 15 2 1,zl 16 15,zf 17 3 1,zl 18 17,zx 19 (.build [.int .i64 0,.int .i64 0,.int .i64 0] [(0,1,.t 14),(1,1,.t 16),(2,1,.t 18)]),zv 20 (.int .i64 0)] (.blk 0 (.loop (.ref 4)))) (.ref 5),
zs [zf 8 0 1,zl 9 8,zc 10 37 [.t 9],zm 7 10,zy 11 7 0,zy 12 7 1,zm 3 11,zm 4 12] (.ref 6)]
def X21:XC:=zs [zx 1 (.box 41 5 (.t 0)),zv 2 (.bool false)] (.ref 7)
abbrev K21:List Nat:=[0,1,2,3,4,5,6,19,20,21,36]
theorem n21:Tryz.f21.ntmps=39:=by kernel_rfl
theorem r21:resT Tryz.f21.results.toList=some [2]:=by kernel_rfl
theorem x21:cmpF Tryz.prog Tryz.f21=some (expand T21 9 X21):=by kernel_rfl
def T37 (n:Nat):XC:=lkT n [
zs [zx 2 (.mov (.const (.string (ByteArray.mk (Array.mk []))))),zv 3 (.bool false)] .ret,
zs [zm 10 0,zx 11 (.idxA 19 2 (.global 0) (.t 10)),zf 12 1 11,zL 13 [.str] 12,zm 2 13,zv 3 (.bool true)] .ret,
.seq (zs [zm 4 0,zK 5 .lss 4 1,zm 6 5,zh 7 6 false 0,zG 8 6 false .geq 7 19,zO 9 6 8] (zw 9 (.ref 0) .skip)) (.ref 1)]
def X37:XC:=zs [zx 2 (.mov (.const (.string (ByteArray.mk (Array.mk []))))),zv 3 (.bool false)] (.ref 2)
abbrev K37:List Nat:=[0,2,3,9]
theorem n37:Tryz.f37.ntmps=14:=by kernel_rfl
theorem r37:resT Tryz.f37.results.toList=some [2,3]:=by kernel_rfl
theorem x37:cmpF Tryz.prog Tryz.f37=some (expand T37 4 X37):=by kernel_rfl
def T38 (n:Nat):XC:=lkT n [
zs [zm 5 0,zm 6 1,zc 7 71 [.t 5,.t 6],zm 4 7] .ret]
def X38:XC:=zs [zv 4 (.int .i64 0)] (.ref 0)
abbrev K38:List Nat:=[0,1,4]
theorem n38:Tryz.f38.ntmps=8:=by kernel_rfl
theorem r38:resT Tryz.f38.results.toList=some [4]:=by kernel_rfl
theorem x38:cmpF Tryz.prog Tryz.f38=some (expand T38 2 X38):=by kernel_rfl
def T71 (n:Nat):XC:=lkT n [
zs [zm 5 0,zm 6 1,zx 7 (.lib 0 [.t 5,.t 6]),zm 4 7] .ret]
def X71:XC:=zs [zv 4 (.int .i64 0)] (.ref 0)
abbrev K71:List Nat:=[0,1,4]
theorem n71:Tryz.f71.ntmps=8:=by kernel_rfl
theorem r71:resT Tryz.f71.results.toList=some [4]:=by kernel_rfl
theorem x71:cmpF Tryz.prog Tryz.f71=some (expand T71 2 X71):=by kernel_rfl
def T90 (n:Nat):XC:=lkT n [
zs [zm 11 4,zm 12 11,zg 13 12 true (.fld 1 (.t 3)),zg 14 12 true (.load [.bool] false (.t 13)),zg 15 12 true (.not (.t 14)),zh 16 12 true 15,zg 17 16 false (.fld 1 (.t 1)),zg 18 16 false (.load [.int .i64] false (.t 17)),.mk (some 19) (some (16,false)) (.call 120 [.t 18]),zg 20 12 true (.pick (.t 16) (.const (.bool true)) (.t 19)),zA 21 12 20,zm 22 21,zg 23 22 true (.fld 2 (.t 3)),zg 24 22 true (.load [.bool] false (.t 23)),zg 25 22 true (.not (.t 24)),zh 26 22 true 25,zg 27 26 false (.fld 2 (.t 1)),zg 28 26 false (.load [.int .i64] false (.t 27)),.mk (some 29) (some (26,false)) (.call 120 [.t 28]),zg 30 22 true (.pick (.t 26) (.const (.bool true)) (.t 29)),zA 31 22 30,zm 32 31,zg 33 32 true (.fld 3 (.t 3)),zg 34 32 true (.load [.bool] false (.t 33)),zg 35 32 true (.not (.t 34)),zh 36 32 true 35,zg 37 36 false (.fld 3 (.t 1)),zg 38 36 false (.load [.int .i64] false (.t 37)),.mk (some 39) (some (36,false)) (.call 120 [.t 38]),zg 40 32 true (.pick (.t 36) (.const (.bool true)) (.t 39)),zA 41 32 40,zm 2 41] .ret,
zs [zf 6 0 1,zl 7 6,zc 8 119 [.t 7],zm 5 8,zy 9 5 0,zy 10 5 1,zx 3 (.alloc 172 [.string (ByteArray.mk (Array.mk [])),.bool false,.bool false,.bool false,.bool false]),zS 5 3 9,zm 4 10] (.ref 0)]
def X90:XC:=zs [zx 1 (.box 41 5 (.t 0)),zv 2 (.bool false)] (.ref 1)
abbrev K90:List Nat:=[0,1,2,3,4]
theorem n90:Tryz.f90.ntmps=42:=by kernel_rfl
theorem r90:resT Tryz.f90.results.toList=some [2]:=by kernel_rfl
theorem x90:cmpF Tryz.prog Tryz.f90=some (expand T90 3 X90):=by kernel_rfl
def T119 (n:Nat):XC:=lkT n [
zs [zx 9 (.build [.string (ByteArray.mk (Array.mk [])),.bool false,.bool false,.bool false,.bool false] [(0,1,.const (.string (ByteArray.mk (Array.mk [UInt8.ofNat 104,UInt8.ofNat 97,UInt8.ofNat 108,UInt8.ofNat 116]))))]),zS 5 2 9,zv 3 (.bool true)] .ret,
zs [zx 12 (.build [.string (ByteArray.mk (Array.mk [])),.bool false,.bool false,.bool false,.bool false] [(0,1,.const (.string (ByteArray.mk (Array.mk [UInt8.ofNat 115,UInt8.ofNat 101,UInt8.ofNat 116])))),(1,1,.const (.bool true)),(4,1,.const (.bool true))]),zS 5 2 12,zv 3 (.bool true)] .ret,
zs [zx 15 (.build [.string (ByteArray.mk (Array.mk [])),.bool false,.bool false,.bool false,.bool false] [(0,1,.const (.string (ByteArray.mk (Array.mk [UInt8.ofNat 109,UInt8.ofNat 111,UInt8.ofNat 118])))),(1,1,.const (.bool true)),(2,1,.const (.bool true))]),zS 5 2 15,zv 3 (.bool true)] .ret,
zw 16 .skip (.ops [zK 23 .eql 6 10,zm 16 23]),
zs [zK 22 .eql 6 9,zm 16 22] (.ref 3),
zs [zK 21 .eql 6 8,zm 16 21] (zw 16 .skip (.ref 4)),
zs [zK 20 .eql 6 7,zm 16 20] (zw 16 .skip (.ref 5)),
zs [zK 19 .eql 6 6,zm 16 19] (zw 16 .skip (.ref 6)),
zs [zK 18 .eql 6 5,zm 16 18] (zw 16 .skip (.ref 7)),
zs [zm 25 4,zm 26 0,zx 27 (.arith .sub .i64 (.t 26) (.i 4)),zd 28 1 25 27,zL 29 [.str] 28,zx 30 (.build [.string (ByteArray.mk (Array.mk [])),.bool false,.bool false,.bool false,.bool false] [(0,1,.t 29),(1,1,.const (.bool true)),(2,1,.const (.bool true)),(3,1,.const (.bool true))]),zS 5 2 30,zv 3 (.bool true)] .ret,
zs [zx 24 (.buildS 9 7 1 [.string (ByteArray.mk (Array.mk []))] [(0,.const (.string (ByteArray.mk (Array.mk [UInt8.ofNat 97,UInt8.ofNat 100,UInt8.ofNat 100])))),(1,.const (.string (ByteArray.mk (Array.mk [UInt8.ofNat 115,UInt8.ofNat 117,UInt8.ofNat 98])))),(2,.const (.string (ByteArray.mk (Array.mk [UInt8.ofNat 109,UInt8.ofNat 117,UInt8.ofNat 108])))),(3,.const (.string (ByteArray.mk (Array.mk [UInt8.ofNat 97,UInt8.ofNat 110,UInt8.ofNat 100])))),(4,.const (.string (ByteArray.mk (Array.mk [UInt8.ofNat 120,UInt8.ofNat 111,UInt8.ofNat 114])))),(5,.const (.string (ByteArray.mk (Array.mk [UInt8.ofNat 115,UInt8.ofNat 104,UInt8.ofNat 108])))),(6,.const (.string (ByteArray.mk (Array.mk [UInt8.ofNat 115,UInt8.ofNat 104,UInt8.ofNat 114]))))]),zm 4 24] (.ref 9),
zw 31 .skip (.ops [zK 36 .eql 6 16,zm 31 36]),
zs [zK 35 .eql 6 15,zm 31 35] (.ref 11),
zs [zK 34 .eql 6 14,zm 31 34] (zw 31 .skip (.ref 12)),
zs [zK 33 .eql 6 12,zm 31 33] (zw 31 .skip (.ref 13)),
zs [zm 38 5,zm 39 0,zx 40 (.arith .sub .i64 (.t 39) (.i 11)),zd 41 1 38 40,zL 42 [.str] 41,zx 43 (.build [.string (ByteArray.mk (Array.mk [])),.bool false,.bool false,.bool false,.bool false] [(0,1,.t 42),(1,1,.const (.bool true)),(2,1,.const (.bool true)),(4,1,.const (.bool true))]),zS 5 2 43,zv 3 (.bool true)] .ret,
zs [zx 37 (.buildS 9 6 1 [.string (ByteArray.mk (Array.mk []))] [(0,.const (.string (ByteArray.mk (Array.mk [UInt8.ofNat 108,UInt8.ofNat 111,UInt8.ofNat 97,UInt8.ofNat 100])))),(1,.const (.string (ByteArray.mk (Array.mk [UInt8.ofNat 115,UInt8.ofNat 116,UInt8.ofNat 111,UInt8.ofNat 114,UInt8.ofNat 101])))),(2,.const (.string (ByteArray.mk (Array.mk [])))),(3,.const (.string (ByteArray.mk (Array.mk [UInt8.ofNat 101,UInt8.ofNat 113])))),(4,.const (.string (ByteArray.mk (Array.mk [UInt8.ofNat 110,UInt8.ofNat 101])))),(5,.const (.string (ByteArray.mk (Array.mk [UInt8.ofNat 108,UInt8.ofNat 116]))))]),zm 5 37] (.ref 15),
zs [zx 46 (.build [.string (ByteArray.mk (Array.mk [])),.bool false,.bool false,.bool false,.bool false] [(0,1,.const (.string (ByteArray.mk (Array.mk [UInt8.ofNat 106,UInt8.ofNat 117,UInt8.ofNat 109,UInt8.ofNat 112])))),(4,1,.const (.bool true))]),zS 5 2 46,zv 3 (.bool true)] .ret,
zs [zx 49 (.build [.string (ByteArray.mk (Array.mk [])),.bool false,.bool false,.bool false,.bool false] [(0,1,.const (.string (ByteArray.mk (Array.mk [UInt8.ofNat 98,UInt8.ofNat 101,UInt8.ofNat 103,UInt8.ofNat 105,UInt8.ofNat 110]))))]),zS 5 2 49,zv 3 (.bool true)] .ret,
zs [zx 52 (.build [.string (ByteArray.mk (Array.mk [])),.bool false,.bool false,.bool false,.bool false] [(0,1,.const (.string (ByteArray.mk (Array.mk [UInt8.ofNat 101,UInt8.ofNat 110,UInt8.ofNat 100]))))]),zS 5 2 52,zv 3 (.bool true)] .ret,
zs [zK 51 .eql 6 18,zm 50 51] (zw 50 (.ref 19) .skip),
zs [zK 48 .eql 6 17,zm 47 48] (zw 47 (.ref 18) (.ref 20)),
zs [zK 45 .eql 6 13,zm 44 45] (zw 44 (.ref 17) (.ref 21)),
.seq (zs [zK 32 .eql 6 11,zm 31 32] (zw 31 .skip (.ref 14))) (zw 31 (.ref 16) (.ref 22)),
.seq (zs [zK 17 .eql 6 4,zm 16 17] (zw 16 .skip (.ref 8))) (zw 16 (.ref 10) (.ref 23)),
zs [zK 14 .eql 6 3,zm 13 14] (zw 13 (.ref 2) (.ref 24)),
zs [zK 11 .eql 6 2,zm 10 11] (zw 10 (.ref 1) (.ref 25)),
.blk 0 (zs [zK 8 .eql 6 1,zm 7 8] (zw 7 (.ref 0) (.ref 26))),
zs [zx 53 (.build [.string (ByteArray.mk (Array.mk [])),.bool false,.bool false,.bool false,.bool false] []),zS 5 2 53,zv 3 (.bool false)] .ret,
.seq (zs [zm 6 0] (.ref 27)) (.ref 28)]
def X119:XC:=zs [zx 2 (.alloc 172 [.string (ByteArray.mk (Array.mk [])),.bool false,.bool false,.bool false,.bool false]),zv 3 (.bool false)] (.ref 29)
abbrev K119:List Nat:=[0,2,3,4,5,6,7,10,13,16,31,44,47,50]
theorem n119:Tryz.f119.ntmps=54:=by kernel_rfl
theorem r119:rvOf Tryz.prog Tryz.f119.results.toList=some [RV.cell 2 5 true,RV.tmp 3]:=by kernel_rfl
theorem x119:cmpF Tryz.prog Tryz.f119=some (expand T119 31 X119):=by kernel_rfl
def T120 (n:Nat):XC:=lkT n [
zs [zm 3 0,zK 4 .geq 3 0,zm 5 4,zh 6 5 true 0,zG 7 5 true .lss 6 8,zA 8 5 7,zm 2 8] .ret]
def X120:XC:=zs [zv 2 (.bool false)] (.ref 0)
abbrev K120:List Nat:=[0,2]
theorem n120:Tryz.f120.ntmps=9:=by kernel_rfl
theorem r120:resT Tryz.f120.results.toList=some [2]:=by kernel_rfl
theorem x120:cmpF Tryz.prog Tryz.f120=some (expand T120 2 X120):=by kernel_rfl
def T24 (n:Nat):XC:=lkT n [
zs [zx 26 (.build [.int .i64 0,.int .i64 0,.int .i64 0,.int .u64 0,.int .u64 0] []),zS 5 6 26] .ret,
zs [zm 52 9,.mk (some 53) none (.callv (.t 52) [.i 7]),zS 5 6 53] .ret,
zs [zm 56 7,zf 57 4 3,zl 58 57,zx 59 (.conv .u64 (.t 58)),.mk (some 60) none (.callv (.t 56) [.t 59]),zS 5 6 60] .ret,
zs [zm 63 7,zm 64 12,.mk (some 65) none (.callv (.t 63) [.t 64]),zS 5 6 65] .ret,
zs [zm 68 7,zm 69 12,zm 70 13,zx 71 (.arith .add .u64 (.t 69) (.t 70)),.mk (some 72) none (.callv (.t 68) [.t 71]),zS 5 6 72] .ret,
zs [zm 75 7,zm 76 12,zm 77 13,zx 78 (.arith .sub .u64 (.t 76) (.t 77)),.mk (some 79) none (.callv (.t 75) [.t 78]),zS 5 6 79] .ret,
zs [zm 82 7,zm 83 12,zm 84 13,zx 85 (.arith .mul .u64 (.t 83) (.t 84)),.mk (some 86) none (.callv (.t 82) [.t 85]),zS 5 6 86] .ret,
zs [zm 89 7,zm 90 12,zm 91 13,zx 92 (.bits .and .u64 (.t 90) (.t 91)),.mk (some 93) none (.callv (.t 89) [.t 92]),zS 5 6 93] .ret,
zs [zm 96 7,zm 97 12,zm 98 13,zx 99 (.bits .xor .u64 (.t 97) (.t 98)),.mk (some 100) none (.callv (.t 96) [.t 99]),zS 5 6 100] .ret,
zs [zm 103 7,zm 104 12,zm 105 13,zx 106 (.div .rem .u64 (.t 105) (.const (.int .u64 64))),zx 107 (.shift .shl .u64 (.t 104) (.t 106)),.mk (some 108) none (.callv (.t 103) [.t 107]),zS 5 6 108] .ret,
zs [zm 111 7,zm 112 12,zm 113 13,zx 114 (.div .rem .u64 (.t 113) (.const (.int .u64 64))),zx 115 (.shift .shr .u64 (.t 112) (.t 114)),.mk (some 116) none (.callv (.t 111) [.t 115]),zS 5 6 116] .ret,
zs [zl 119 5,zp 120 119,zf 121 1 3,zl 122 121,zm 123 14,zx 124 (.build [.int .i64 0,.int .i64 0,.int .i64 0,.int .u64 0,.int .u64 0] [(0,1,.i 3),(1,1,.t 120),(2,1,.t 122),(4,1,.t 123)]),zS 5 6 124] .ret,
zs [zl 127 5,zp 128 127,zm 129 11,zm 130 14,zx 131 (.build [.int .i64 0,.int .i64 0,.int .i64 0,.int .u64 0,.int .u64 0] [(0,1,.i 4),(1,1,.t 128),(3,1,.t 129),(4,1,.t 130)]),zS 5 6 131] .ret,
zs [zm 134 8,.mk (some 135) none (.callv (.t 134) [.const (.bool true)]),zS 5 6 135] .ret,
zs [zm 138 8,zm 139 11,zm 140 12,zx 141 (.cmp .eql .u64 (.t 139) (.t 140)),.mk (some 142) none (.callv (.t 138) [.t 141]),zS 5 6 142] .ret,
zs [zm 145 8,zm 146 11,zm 147 12,zx 148 (.cmp .neq .u64 (.t 146) (.t 147)),.mk (some 149) none (.callv (.t 145) [.t 148]),zS 5 6 149] .ret,
zs [zm 152 8,zm 153 11,zm 154 12,zx 155 (.cmp .lss .u64 (.t 153) (.t 154)),.mk (some 156) none (.callv (.t 152) [.t 155]),zS 5 6 156] .ret,
zs [zm 159 9,.mk (some 160) none (.callv (.t 159) [.i 5]),zS 5 6 160] .ret,
zs [zK 158 .eql 49 17,zm 157 158] (zw 157 (.ref 17) .skip),
zs [zK 151 .eql 49 16,zm 150 151] (zw 150 (.ref 16) (.ref 18)),
zs [zK 144 .eql 49 15,zm 143 144] (zw 143 (.ref 15) (.ref 19)),
zs [zK 137 .eql 49 14,zm 136 137] (zw 136 (.ref 14) (.ref 20)),
zs [zK 133 .eql 49 13,zm 132 133] (zw 132 (.ref 13) (.ref 21)),
zs [zK 126 .eql 49 12,zm 125 126] (zw 125 (.ref 12) (.ref 22)),
zs [zK 118 .eql 49 11,zm 117 118] (zw 117 (.ref 11) (.ref 23)),
zs [zK 110 .eql 49 10,zm 109 110] (zw 109 (.ref 10) (.ref 24)),
zs [zK 102 .eql 49 9,zm 101 102] (zw 101 (.ref 9) (.ref 25)),
zs [zK 95 .eql 49 8,zm 94 95] (zw 94 (.ref 8) (.ref 26)),
zs [zK 88 .eql 49 7,zm 87 88] (zw 87 (.ref 7) (.ref 27)),
zs [zK 81 .eql 49 6,zm 80 81] (zw 80 (.ref 6) (.ref 28)),
zs [zK 74 .eql 49 5,zm 73 74] (zw 73 (.ref 5) (.ref 29)),
zs [zK 67 .eql 49 4,zm 66 67] (zw 66 (.ref 4) (.ref 30)),
zs [zK 62 .eql 49 3,zm 61 62] (zw 61 (.ref 3) (.ref 31)),
zs [zK 55 .eql 49 2,zm 54 55] (zw 54 (.ref 2) (.ref 32)),
.blk 0 (zs [zK 51 .eql 49 1,zm 50 51] (zw 50 (.ref 1) (.ref 33))),
zs [zm 161 9,.mk (some 162) none (.callv (.t 161) [.i 6]),zS 5 6 162] .ret,
.seq (zs [zf 48 0 3,zl 49 48] (.ref 34)) (.ref 35),
zs [zm 43 12,zf 44 4 3,zl 45 44,zx 46 (.conv .u64 (.t 45)),zx 47 (.arith .add .u64 (.t 43) (.t 46)),zm 14 47] (.ref 36),
zs [zm 31 10,zf 32 1 3,zm 35 10,zf 36 2 3,zm 39 10,zf 40 3 3,zl 33 32,zl 37 36,zl 41 40,.mk (some 34) none (.callv (.t 31) [.t 33]),.mk none none (.still 41 (.load [.int .i64] false (.t 40))),.mk none none (.still 37 (.load [.int .i64] false (.t 36))),.mk (some 38) none (.callv (.t 35) [.t 37]),.mk none none (.still 41 (.load [.int .i64] false (.t 40))),.mk (some 42) none (.callv (.t 39) [.t 41]),zm 11 34,zm 12 38,zm 13 42] (.ref 37),
zs [zx 30 (.mkfn (.func 52) [] [.t 4]),zm 10 30] (.ref 38),
zs [zx 29 (.mkfn (.func 51) [] [.t 5]),zm 9 29] (.ref 39),
zs [zx 28 (.mkfn (.func 50) [] [.t 5,.t 3]),zm 8 28] (.ref 40),
zs [zx 27 (.mkfn (.func 49) [] [.t 5,.t 3]),zm 7 27] (.ref 41),
.seq (zs [zi 15 3,zc 16 21 [.t 15],zx 17 (.not (.t 16)),zm 18 17,zg 19 18 false (.load [.int .i64] false (.t 5)),zG 20 18 false .lss 19 0,zO 21 18 20,zm 22 21,zg 23 22 false (.load [.int .i64] false (.t 5)),zG 24 22 false .geq 23 1024,zO 25 22 24] (zw 25 (.ref 0) .skip)) (.ref 42)]
def X24:XC:=zs [zx 3 (.box 41 5 (.t 0)),zx 4 (.box 50 8 (.t 1)),zx 5 (.box 3 1 (.t 2)),zx 6 (.alloc 54 [.int .i64 0,.int .i64 0,.int .i64 0,.int .u64 0,.int .u64 0])] (.ref 43)
abbrev K24:List Nat:=[0,1,2,3,4,5,6,7,8,9,10,11,12,13,14,25,49,50,54,61,66,73,80,87,94,101,109,117,125,132,136,143,150,157]
theorem n24:Tryz.f24.ntmps=163:=by kernel_rfl
theorem r24:rvOf Tryz.prog Tryz.f24.results.toList=some [RV.cell 6 5 true]:=by kernel_rfl
theorem x24:cmpF Tryz.prog Tryz.f24=some (expand T24 45 X24):=by kernel_rfl
def T49 (n:Nat):XC:=lkT n [
zs [zl 5 1,zp 6 5,zf 7 1 2,zl 8 7,zm 9 0,zx 10 (.build [.int .i64 0,.int .i64 0,.int .i64 0,.int .u64 0,.int .u64 0] [(0,1,.i 1),(1,1,.t 6),(2,1,.t 8),(3,1,.t 9)]),zS 5 4 10] .ret]
def X49:XC:=zs [zx 4 (.alloc 54 [.int .i64 0,.int .i64 0,.int .i64 0,.int .u64 0,.int .u64 0])] (.ref 0)
abbrev K49:List Nat:=[0,1,2,4]
theorem n49:Tryz.f49.ntmps=11:=by kernel_rfl
theorem r49:rvOf Tryz.prog Tryz.f49.results.toList=some [RV.cell 4 5 true]:=by kernel_rfl
theorem x49:cmpF Tryz.prog Tryz.f49=some (expand T49 2 X49):=by kernel_rfl
def T50 (n:Nat):XC:=lkT n [
zs [zl 7 1,zp 8 7,zx 9 (.build [.int .i64 0,.int .i64 0,.int .i64 0,.int .u64 0,.int .u64 0] [(0,1,.i 2),(1,1,.t 8)]),zS 5 4 9] .ret,
zs [zx 18 (.build [.int .i64 0,.int .i64 0,.int .i64 0,.int .u64 0,.int .u64 0] []),zS 5 4 18] .ret,
zs [zf 19 4 2,zl 20 19,zx 21 (.build [.int .i64 0,.int .i64 0,.int .i64 0,.int .u64 0,.int .u64 0] [(0,1,.i 2),(1,1,.t 20)]),zS 5 4 21] .ret,
.seq (zs [zf 10 4 2,zl 11 10,zK 12 .lss 11 0,zm 13 12,zg 14 13 false (.fld 4 (.t 2)),zg 15 13 false (.load [.int .i64] false (.t 14)),zG 16 13 false .gtr 15 1024,zO 17 13 16] (zw 17 (.ref 1) .skip)) (.ref 2),
.seq (zs [zm 5 0,zx 6 (.not (.t 5))] (zw 6 (.ref 0) .skip)) (.ref 3)]
def X50:XC:=zs [zx 4 (.alloc 54 [.int .i64 0,.int .i64 0,.int .i64 0,.int .u64 0,.int .u64 0])] (.ref 4)
abbrev K50:List Nat:=[0,1,2,4,6,17]
theorem n50:Tryz.f50.ntmps=22:=by kernel_rfl
theorem r50:rvOf Tryz.prog Tryz.f50.results.toList=some [RV.cell 4 5 true]:=by kernel_rfl
theorem x50:cmpF Tryz.prog Tryz.f50=some (expand T50 6 X50):=by kernel_rfl
def T51 (n:Nat):XC:=lkT n [
zs [zm 4 0,zl 5 1,zp 6 5,zx 7 (.build [.int .i64 0,.int .i64 0,.int .i64 0,.int .u64 0,.int .u64 0] [(0,1,.t 4),(1,1,.t 6)]),zS 5 3 7] .ret]
def X51:XC:=zs [zx 3 (.alloc 54 [.int .i64 0,.int .i64 0,.int .i64 0,.int .u64 0,.int .u64 0])] (.ref 0)
abbrev K51:List Nat:=[0,1,3]
theorem n51:Tryz.f51.ntmps=8:=by kernel_rfl
theorem r51:rvOf Tryz.prog Tryz.f51.results.toList=some [RV.cell 3 5 true]:=by kernel_rfl
theorem x51:cmpF Tryz.prog Tryz.f51=some (expand T51 2 X51):=by kernel_rfl
def T52 (n:Nat):XC:=lkT n [
zs [zm 4 0,zx 5 (.bits .and .i64 (.t 4) (.i 7)),zx 6 (.idxA 8 1 (.t 1) (.t 5)),zL 7 [.int .u64] 6,zm 3 7] .ret]
def X52:XC:=zs [zv 3 (.int .u64 0)] (.ref 0)
abbrev K52:List Nat:=[0,1,3]
theorem n52:Tryz.f52.ntmps=8:=by kernel_rfl
theorem r52:resT Tryz.f52.results.toList=some [3]:=by kernel_rfl
theorem x52:cmpF Tryz.prog Tryz.f52=some (expand T52 2 X52):=by kernel_rfl
def T92 (n:Nat):XC:=lkT n [
zs [zx 34 (.build [.int .i64 0,.int .i64 0,.int .i64 0,.int .u64 0,.int .u64 0] []),zS 5 6 34] .ret,
.ops [zf 37 1 3,zl 38 37,zx 39 (.idxA 8 1 (.t 4) (.t 38)),zL 40 [.int .u64] 39,zm 9 40],
.ops [zf 43 2 3,zl 44 43,zx 45 (.idxA 8 1 (.t 4) (.t 44)),zL 46 [.int .u64] 45,zm 10 46],
.ops [zf 49 3 3,zl 50 49,zx 51 (.idxA 8 1 (.t 4) (.t 50)),zL 52 [.int .u64] 51,zm 11 52],
.ops [zf 65 4 3,zl 66 65,zx 67 (.conv .u64 (.t 66)),zf 68 3 12,zS 1 68 67],
.ops [zm 71 10,zf 72 3 12,zS 1 72 71],
.ops [zm 75 10,zm 76 11,zx 77 (.arith .add .u64 (.t 75) (.t 76)),zf 78 3 12,zS 1 78 77],
.ops [zm 81 10,zm 82 11,zx 83 (.arith .sub .u64 (.t 81) (.t 82)),zf 84 3 12,zS 1 84 83],
.ops [zm 87 10,zm 88 11,zx 89 (.arith .mul .u64 (.t 87) (.t 88)),zf 90 3 12,zS 1 90 89],
.ops [zm 93 10,zm 94 11,zx 95 (.bits .and .u64 (.t 93) (.t 94)),zf 96 3 12,zS 1 96 95],
.ops [zm 99 10,zm 100 11,zx 101 (.bits .xor .u64 (.t 99) (.t 100)),zf 102 3 12,zS 1 102 101],
zw 103 .skip (.ops [zK 105 .eql 59 10,zm 103 105]),
.ops [zm 106 10,zm 107 11,zf 108 0 3,zl 109 108,zK 110 .eql 109 9,zc 111 121 [.t 106,.t 107,.t 110],zf 112 3 12,zS 1 112 111],
.ops [zm 116 10,zf 117 4 3,zl 118 117,zx 119 (.conv .u64 (.t 118)),zx 120 (.arith .add .u64 (.t 116) (.t 119)),zf 121 4 12,zS 1 121 120],
zs [zf 115 0 12,zn (.store 1 (.t 115) (.i 3))] (.ref 13),
.ops [zm 124 2,zp 125 124,zm 126 9,zm 127 10,zf 128 4 3,zl 129 128,zx 130 (.conv .u64 (.t 129)),zx 131 (.arith .add .u64 (.t 127) (.t 130)),zx 132 (.build [.int .i64 0,.int .i64 0,.int .i64 0,.int .u64 0,.int .u64 0] [(0,1,.i 4),(1,1,.t 125),(3,1,.t 126),(4,1,.t 131)]),zS 5 12 132],
zw 133 .skip (.ops [zK 137 .eql 59 16,zm 133 137]),
zs [zK 136 .eql 59 15,zm 133 136] (.ref 16),
zs [zK 135 .eql 59 14,zm 133 135] (zw 133 .skip (.ref 17)),
zs [zx 185 (.build [.int .i64 0,.int .i64 0,.int .i64 0,.int .u64 0,.int .u64 0] []),zS 5 6 185] .ret,
zs [zf 177 4 3,zl 178 177,zK 179 .lss 178 0,zm 180 179,zg 181 180 false (.fld 4 (.t 3)),zg 182 180 false (.load [.int .i64] false (.t 181)),zG 183 180 false .gtr 182 1024,zO 184 180 183] (zw 184 (.ref 19) .skip),
zs [zf 174 4 3,zl 175 174,zf 176 1 12,zS 1 176 175] (.ref 20),
zs [zf 141 0 3,zl 142 141,zK 143 .eql 142 13,zm 144 143,zg 145 144 false (.fld 0 (.t 3)),zg 146 144 false (.load [.int .i64] false (.t 145)),zG 147 144 false .eql 146 14,zh 148 144 false 147,zh 149 148 true 9,zh 150 148 true 10,zg 151 148 true (.cmp .eql .u64 (.t 149) (.t 150)),zg 152 144 false (.pick (.t 148) (.t 151) (.const (.bool false))),zO 153 144 152,zm 154 153,zg 155 154 false (.fld 0 (.t 3)),zg 156 154 false (.load [.int .i64] false (.t 155)),zG 157 154 false .eql 156 15,zh 158 154 false 157,zh 159 158 true 9,zh 160 158 true 10,zg 161 158 true (.cmp .neq .u64 (.t 159) (.t 160)),zg 162 154 false (.pick (.t 158) (.t 161) (.const (.bool false))),zO 163 154 162,zm 164 163,zg 165 164 false (.fld 0 (.t 3)),zg 166 164 false (.load [.int .i64] false (.t 165)),zG 167 164 false .eql 166 16,zh 168 164 false 167,zh 169 168 true 9,zh 170 168 true 10,zg 171 168 true (.cmp .lss .u64 (.t 169) (.t 170)),zg 172 164 false (.pick (.t 168) (.t 171) (.const (.bool false))),zO 173 164 172] (zw 173 (.ref 21) .skip),
zs [zm 138 2,zp 139 138,zx 140 (.build [.int .i64 0,.int .i64 0,.int .i64 0,.int .u64 0,.int .u64 0] [(0,1,.i 2),(1,1,.t 139)]),zS 5 12 140] (.ref 22),
.ops [zm 188 2,zp 189 188,zx 190 (.build [.int .i64 0,.int .i64 0,.int .i64 0,.int .u64 0,.int .u64 0] [(0,1,.i 5),(1,1,.t 189)]),zS 5 12 190],
.ops [zm 193 2,zp 194 193,zx 195 (.build [.int .i64 0,.int .i64 0,.int .i64 0,.int .u64 0,.int .u64 0] [(0,1,.i 6),(1,1,.t 194)]),zS 5 12 195],
.ops [zm 60 2,zp 61 60,zx 62 (.build [.int .i64 0,.int .i64 0,.int .i64 0,.int .u64 0,.int .u64 0] [(0,1,.i 7),(1,1,.t 61)]),zS 5 12 62],
zs [zK 192 .eql 59 18,zm 191 192] (zw 191 (.ref 25) (.ref 26)),
zs [zK 187 .eql 59 17,zm 186 187] (zw 186 (.ref 24) (.ref 27)),
.seq (zs [zK 134 .eql 59 13,zm 133 134] (zw 133 .skip (.ref 18))) (zw 133 (.ref 23) (.ref 28)),
zs [zK 123 .eql 59 12,zm 122 123] (zw 122 (.ref 15) (.ref 29)),
zs [zK 114 .eql 59 11,zm 113 114] (zw 113 (.ref 14) (.ref 30)),
.seq (zs [zK 104 .eql 59 9,zm 103 104] (.ref 11)) (zw 103 (.ref 12) (.ref 31)),
zs [zK 98 .eql 59 8,zm 97 98] (zw 97 (.ref 10) (.ref 32)),
zs [zK 92 .eql 59 7,zm 91 92] (zw 91 (.ref 9) (.ref 33)),
zs [zK 86 .eql 59 6,zm 85 86] (zw 85 (.ref 8) (.ref 34)),
zs [zK 80 .eql 59 5,zm 79 80] (zw 79 (.ref 7) (.ref 35)),
zs [zK 74 .eql 59 4,zm 73 74] (zw 73 (.ref 6) (.ref 36)),
zs [zK 70 .eql 59 3,zm 69 70] (zw 69 (.ref 5) (.ref 37)),
.blk 0 (zs [zK 64 .eql 59 2,zm 63 64] (zw 63 (.ref 4) (.ref 38))),
zs [zx 196 (.load [.int .i64,.int .i64,.int .i64,.int .u64,.int .u64] true (.t 12)),zS 5 6 196] .ret,
.seq (zs [zf 58 0 3,zl 59 58] (.ref 39)) (.ref 40),
zs [zm 53 2,zp 54 53,zf 55 1 3,zl 56 55,zx 57 (.build [.int .i64 0,.int .i64 0,.int .i64 0,.int .u64 0,.int .u64 0] [(0,1,.i 1),(1,1,.t 54),(2,1,.t 56)]),zx 12 (.alloc 54 [.int .i64 0,.int .i64 0,.int .i64 0,.int .u64 0,.int .u64 0]),zS 5 12 57] (.ref 41),
.seq (zs [zf 47 3 7,zL 48 [.bool] 47] (zw 48 (.ref 3) .skip)) (.ref 42),
.seq (zs [zf 41 2 7,zL 42 [.bool] 41] (zw 42 (.ref 2) .skip)) (.ref 43),
.seq (zs [zf 35 1 7,zL 36 [.bool] 35] (zw 36 (.ref 1) .skip)) (.ref 44),
zs [zv 9 (.int .u64 0),zv 10 (.int .u64 0),zv 11 (.int .u64 0)] (.ref 45),
.seq (zs [zm 19 8,zx 20 (.not (.t 19)),zm 21 20,zg 22 21 false (.load [.int .i64,.int .i64,.int .i64,.int .i64,.int .i64] true (.t 3)),.mk (some 23) (some (21,false)) (.call 90 [.t 22]),zg 24 21 false (.not (.t 23)),zO 25 21 24,zm 26 25,zh 27 26 false 2,zG 28 26 false .lss 27 0,zO 29 26 28,zm 30 29,zh 31 30 false 2,zG 32 30 false .geq 31 1024,zO 33 30 32] (zw 33 (.ref 0) .skip)) (.ref 46),
zs [zf 14 0 3,zl 15 14,zc 16 119 [.t 15],zm 13 16,zy 17 13 0,zy 18 13 1,zx 7 (.alloc 172 [.string (ByteArray.mk (Array.mk [])),.bool false,.bool false,.bool false,.bool false]),zS 5 7 17,zm 8 18] (.ref 47)]
def X92:XC:=zs [zx 3 (.box 41 5 (.t 0)),zx 4 (.box 50 8 (.t 1)),zx 6 (.alloc 54 [.int .i64 0,.int .i64 0,.int .i64 0,.int .u64 0,.int .u64 0])] (.ref 48)
abbrev K92:List Nat:=[0,1,2,3,4,6,7,8,9,10,11,12,33,36,42,48,59,63,69,73,79,85,91,97,103,113,122,133,173,184,186,191]
theorem n92:Tryz.f92.ntmps=197:=by kernel_rfl
theorem r92:rvOf Tryz.prog Tryz.f92.results.toList=some [RV.cell 6 5 true]:=by kernel_rfl
theorem x92:cmpF Tryz.prog Tryz.f92=some (expand T92 50 X92):=by kernel_rfl
def T121 (n:Nat):XC:=lkT n [
.ops [zm 15 0,zm 16 0,zx 17 (.arith .add .u64 (.t 15) (.t 16)),zm 0 17],
.ops [zm 18 0,zx 19 (.div .quo .u64 (.t 18) (.const (.int .u64 2))),zm 0 19],
.ops [zm 12 7,zx 13 (.arith .add .u64 (.t 12) (.const (.int .u64 1))),zm 7 13],
.seq (.blk 1 (zs [zm 14 2] (zw 14 (.ref 0) (.ref 1)))) (.ref 2),
.seq (zs [zm 8 7,zm 9 1,zx 10 (.div .rem .u64 (.t 9) (.const (.int .u64 64))),zx 11 (.cmp .lss .u64 (.t 8) (.t 10))] (zw 11 .skip (.exit 0))) (.ref 3),
zs [zm 20 0,zm 6 20] .ret,
.seq (zs [zv 7 (.int .u64 0)] (.blk 0 (.loop (.ref 4)))) (.ref 5)]
def X121:XC:=zs [zv 6 (.int .u64 0)] (.ref 6)
abbrev K121:List Nat:=[0,1,2,6,7,11,14]
theorem n121:Tryz.f121.ntmps=21:=by kernel_rfl
theorem r121:resT Tryz.f121.results.toList=some [6]:=by kernel_rfl
theorem x121:cmpF Tryz.prog Tryz.f121=some (expand T121 8 X121):=by kernel_rfl
attribute [go_sem] X21 T21
attribute [go_sem] X37 T37
attribute [go_sem] X38 T38
attribute [go_sem] X71 T71
attribute [go_sem] X90 T90
attribute [go_sem] X119 T119
attribute [go_sem] X120 T120
attribute [go_sem] X24 T24
attribute [go_sem] X49 T49
attribute [go_sem] X50 T50
attribute [go_sem] X51 T51
attribute [go_sem] X52 T52
attribute [go_sem] X92 T92
attribute [go_sem] X121 T121
end Go.Proofs.YtlbiogokpadaoaaGreatDoor
