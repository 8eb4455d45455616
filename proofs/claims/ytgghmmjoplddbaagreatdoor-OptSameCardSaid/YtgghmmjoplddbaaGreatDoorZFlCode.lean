/- Printed by program: the small code of functions, and that it is theirs. -/
import Derived.Test.YtgghmmjoplddbaaGreatDoorSxStill
import Derived.Test.YtgghmmjoplddbaaGreatDoorProg
import Derived.KernelRfl
set_option linter.unusedSimpArgs false
set_option linter.unusedVariables false
set_option linter.unnecessarySimpa false
namespace Go.Proofs.YtgghmmjoplddbaaGreatDoor
open Go Go.Sx
set_option maxRecDepth 100000
def T88 (n:Nat):XC:=lkT n [
.ops [zL 27 [.slc] 3,zm 28 5,zp 29 28,zd 30 1 27 29,zl 31 30,zf 32 1 7,zS 1 32 31],
.blk 3 (.ops [zf 39 2 7,zL 40 [.slc] 39,zL 41 [.slc] 3,zm 42 8,zc 43 105 [.t 41,.t 42],.mk none none (.still 40 (.load [.slc] false (.t 39))),zx 44 (.buildS 3 1 1 [.int .i64 0] [(0,.t 43)]),zx 45 (.app 3 1 8 (.t 40) (.t 44)),zf 46 2 7,zS 1 46 45]),
.blk 2 (.rng (.t 37) [38] (.ops [zm 8 38]) (.ref 1)),
.ops [zm 54 4,zx 55 (.load [.int .i64,.int .i64,.slc] true (.t 7)),zx 56 (.buildS 123 1 3 [.int .i64 0,.int .i64 0,.slice none 0 0] [(0,.t 55)]),zx 57 (.app 123 3 40 (.t 54) (.t 56)),zm 4 57],
zs [zf 50 2 7,zL 51 [.slc] 50,zc 52 107 [.t 51],zf 53 2 7,zS 1 53 52] (.ref 3),
zs [zf 47 2 7,zL 48 [.slc] 47,zc 49 106 [.t 48]] (.ref 4),
.seq (zs [zm 33 0,zf 34 1 7,zl 35 34,zx 36 (.arith .sub .i64 (.t 35) (.i 1)),zc 37 104 [.t 33,.t 36]] (.ref 2)) (.ref 5),
.seq (zs [zm 22 5,zp 23 22,zL 24 [.slc] 3,ze 25 24,zk 26 .lss 23 25] (zw 26 (.ref 0) .skip)) (.ref 6),
zs [zm 18 6,zm 19 0,ze 20 19,zx 21 (.build [.int .i64 0,.int .i64 0,.slice none 0 0] [(0,1,.t 18),(1,1,.t 20)]),zx 7 (.alloc 123 [.int .i64 0,.int .i64 0,.slice none 0 0]),zS 3 7 21] (.ref 7),
.seq (.blk 1 (zs [zm 15 13,zd 16 1 11 13,zl 17 16,zm 5 15,zm 6 17] (.ref 8))) (.ops [zp 58 13,zm 13 58]),
.seq (zw 14 .skip (.exit 0)) (.ref 9),
zs [zk 14 .lss 13 12] (.ref 10),
zs [zm 59 4,zm 2 59] .ret,
.seq (zs [zL 11 [.slc] 3,ze 12 11,zv 13 (.int .i64 0)] (.blk 0 (.loop (.ref 11)))) (.ref 12),
zs [zv 4 (.slice none 0 0)] (.ref 13),
zs [zm 9 0,zc 10 103 [.t 9],zx 3 (.alloc 77 [.slice none 0 0]),zS 1 3 10] (.ref 14)]
def X88:XC:=zs [zv 2 (.slice none 0 0)] (.ref 15)
abbrev K88:List Nat:=[0,2,3,4,5,6,7,8,11,12,13,14,26,37,38]
theorem n88:Tryz.f88.ntmps=60:=by kernel_rfl
theorem r88:resT Tryz.f88.results.toList=some [2]:=by kernel_rfl
theorem x88:cmpF Tryz.prog Tryz.f88=some (expand T88 17 X88):=by kernel_rfl
def T105 (n:Nat):XC:=lkT n [
zs [zm 13 5,zm 4 13] .ret,
zs [zm 8 0,zm 9 1,zc 10 126 [.t 8,.t 9],zm 7 10,zy 11 7 0,zy 12 7 1,zm 5 11,zm 6 12] (.ref 0)]
def X105:XC:=zs [zv 4 (.int .i64 0)] (.ref 1)
abbrev K105:List Nat:=[0,1,4,5]
theorem n105:Tryz.f105.ntmps=14:=by kernel_rfl
theorem r105:resT Tryz.f105.results.toList=some [4]:=by kernel_rfl
theorem x105:cmpF Tryz.prog Tryz.f105=some (expand T105 3 X105):=by kernel_rfl
def T103 (n:Nat):XC:=lkT n [
zs [zv 2 (.slice none 0 0)] .ret,
.ops [zm 25 3,zm 26 4,zp 27 26,zx 28 (.buildS 3 1 1 [.int .i64 0] [(0,.t 27)]),zx 29 (.app 3 1 8 (.t 25) (.t 28)),zm 3 29],
.ops [zm 30 3,zm 31 0,zm 32 4,zc 33 104 [.t 31,.t 32],zc 34 123 [.t 30,.t 33],zm 3 34],
.seq (zs [zm 20 4,zp 21 20,zm 22 0,ze 23 22,zk 24 .lss 21 23] (zw 24 (.ref 1) .skip)) (.ref 2),
.seq (zs [zi 17 5,zc 18 122 [.t 17],zx 19 (.not (.t 18))] (zw 19 (.exit 1) .skip)) (.ref 3),
.seq (.blk 1 (zs [zm 14 12,zd 15 5 10 12,zi 16 15,zx 5 (.alloc 47 [.int .i64 0,.int .i64 0,.int .i64 0,.int .i64 0,.int .i64 0]),zm 4 14,zS 5 5 16] (.ref 4))) (.ops [zp 35 12,zm 12 35]),
.seq (zw 13 .skip (.exit 0)) (.ref 5),
zs [zk 13 .lss 12 11] (.ref 6),
zs [zm 38 3,zc 39 107 [.t 38],zm 2 39] .ret,
zs [zm 36 3,zc 37 106 [.t 36]] (.ref 8),
.seq (zs [zm 10 0,ze 11 10,zv 12 (.int .i64 0)] (.blk 0 (.loop (.ref 7)))) (.ref 9),
zs [zx 9 (.buildS 3 1 1 [.int .i64 0] [(0,.i 0)]),zm 3 9] (.ref 10),
.seq (zs [zm 6 0,ze 7 6,zK 8 .eql 7 0] (zw 8 (.ref 0) .skip)) (.ref 11)]
def X103:XC:=zs [zv 2 (.slice none 0 0)] (.ref 12)
abbrev K103:List Nat:=[0,2,3,4,5,8,10,11,12,13,19,24]
theorem n103:Tryz.f103.ntmps=40:=by kernel_rfl
theorem r103:resT Tryz.f103.results.toList=some [2]:=by kernel_rfl
theorem x103:cmpF Tryz.prog Tryz.f103=some (expand T103 14 X103):=by kernel_rfl
def T104 (n:Nat):XC:=lkT n [
zs [zx 5 (.mkfn (.func 124) [] [.t 2,.t 3]),zm 4 5] .ret]
def X104:XC:=zs [zx 2 (.box 22 1 (.t 0)),zx 3 (.box 3 1 (.t 1)),zv 4 .nilFunc] (.ref 0)
abbrev K104:List Nat:=[0,1,2,3,4]
theorem n104:Tryz.f104.ntmps=6:=by kernel_rfl
theorem r104:resT Tryz.f104.results.toList=some [4]:=by kernel_rfl
theorem x104:cmpF Tryz.prog Tryz.f104=some (expand T104 2 X104):=by kernel_rfl
def T107 (n:Nat):XC:=lkT n [
zs [zm 9 0,zm 2 9] .ret,
.ops [zm 52 3,zp 53 52,zm 3 53],
zs [zm 45 0,zm 46 3,zm 47 4,zm 48 5,zd 49 1 47 48,zl 50 49,zd 51 1 45 46,zS 1 51 50] (.ref 1),
.ops [zm 33 5,zp 34 33,zm 5 34],
.seq (.blk 3 (zs [zm 35 4,zm 36 5,zd 37 1 35 36,zl 38 37,zm 39 4,zm 40 5,zx 41 (.arith .sub .i64 (.t 40) (.i 1)),zd 42 1 39 41,zl 43 42,zk 44 .neq 38 43] (zw 44 (.ref 2) .skip))) (.ref 3),
.seq (zs [zm 29 5,zm 30 4,ze 31 30,zk 32 .lss 29 31] (zw 32 .skip (.exit 2))) (.ref 4),
zs [zm 57 0,zm 58 3,zx 59 (.sub 1 (.t 57) none (some (.t 58))),zm 2 59] .ret,
zs [zm 54 0,zm 55 3,zx 56 (.sub 1 (.t 54) (some (.t 55)) none),zn (.clr 1 [.int .i64 0] (.t 56))] (.ref 6),
.seq (zs [zv 5 (.int .i64 1)] (.blk 2 (.loop (.ref 5)))) (.ref 7),
zs [zm 26 0,zm 27 3,zx 28 (.sub 1 (.t 26) (some (.t 27)) none),zm 4 28] (.ref 8),
.ops [zm 14 3,zp 15 14,zm 3 15],
.seq (.blk 1 (zs [zm 16 0,zm 17 3,zd 18 1 16 17,zl 19 18,zm 20 0,zm 21 3,zx 22 (.arith .sub .i64 (.t 21) (.i 1)),zd 23 1 20 22,zl 24 23,zk 25 .eql 19 24] (zw 25 (.ref 9) .skip))) (.ref 10),
.seq (zs [zm 10 3,zm 11 0,ze 12 11,zk 13 .lss 10 12] (zw 13 .skip (.exit 0))) (.ref 11),
zs [zm 60 0,zm 2 60] .ret,
.seq (zs [zv 3 (.int .i64 1)] (.blk 0 (.loop (.ref 12)))) (.ref 13),
.seq (zs [zm 6 0,ze 7 6,zK 8 .lss 7 2] (zw 8 (.ref 0) .skip)) (.ref 14)]
def X107:XC:=zs [zv 2 (.slice none 0 0)] (.ref 15)
abbrev K107:List Nat:=[0,2,3,4,5,8,13,25,32,44]
theorem n107:Tryz.f107.ntmps=61:=by kernel_rfl
theorem r107:resT Tryz.f107.results.toList=some [2]:=by kernel_rfl
theorem x107:cmpF Tryz.prog Tryz.f107=some (expand T107 17 X107):=by kernel_rfl
def T122 (n:Nat):XC:=lkT n [
zs [zi 3 1,zc 4 11 [.t 3],zx 5 (.not (.t 4)),zm 6 5,zg 7 6 false (.fld 0 (.t 1)),zg 8 6 false (.load [.int .i64] false (.t 7)),zG 9 6 false .eql 8 1,zO 10 6 9,zm 11 10,zg 12 11 false (.fld 0 (.t 1)),zg 13 11 false (.load [.int .i64] false (.t 12)),.mk (some 14) (some (11,false)) (.call 125 [.t 13]),zO 15 11 14,zm 2 15] .ret]
def X122:XC:=zs [zx 1 (.box 47 5 (.t 0)),zv 2 (.bool false)] (.ref 0)
abbrev K122:List Nat:=[0,1,2]
theorem n122:Tryz.f122.ntmps=16:=by kernel_rfl
theorem r122:resT Tryz.f122.results.toList=some [2]:=by kernel_rfl
theorem x122:cmpF Tryz.prog Tryz.f122=some (expand T122 2 X122):=by kernel_rfl
def T123 (n:Nat):XC:=lkT n [
.blk 1 (.ops [zL 8 [.slc] 2,zm 9 5,zx 10 (.buildS 3 1 1 [.int .i64 0] [(0,.t 9)]),zx 11 (.app 3 1 8 (.t 8) (.t 10)),zS 1 2 11]),
.blk 0 (.rng (.t 6) [7] (.ops [zm 5 7]) (.ref 0)),
zs [zL 12 [.slc] 2,zm 4 12] .ret,
.seq (zs [zm 6 1] (.ref 1)) (.ref 2)]
def X123:XC:=zs [zx 2 (.box 77 1 (.t 0)),zv 4 (.slice none 0 0)] (.ref 3)
abbrev K123:List Nat:=[0,1,2,4,5,6,7]
theorem n123:Tryz.f123.ntmps=13:=by kernel_rfl
theorem r123:resT Tryz.f123.results.toList=some [4]:=by kernel_rfl
theorem x123:cmpF Tryz.prog Tryz.f123=some (expand T123 5 X123):=by kernel_rfl
def T124 (n:Nat):XC:=lkT n [
.ops [zm 49 0,zl 50 2,zp 51 50,.mk (some 52) none (.callv (.t 49) [.t 51])],
zs [zf 39 0 4,zl 40 39,zK 41 .neq 40 13,zm 42 41,zg 43 42 true (.load [.int .i64] false (.t 2)),zg 44 42 true (.arith .add .i64 (.t 43) (.i 1)),zg 45 42 true (.load [.slc] false (.t 1)),zg 46 42 true (.lenS (.t 45)),zg 47 42 true (.cmp .lss .i64 (.t 44) (.t 46)),zA 48 42 47] (zw 48 (.ref 0) .skip),
.seq (zs [zf 17 0 4,zl 18 17,zc 19 125 [.t 18],zm 20 19,zg 21 20 true (.fld 4 (.t 4)),zg 22 20 true (.load [.int .i64] false (.t 21)),zG 23 20 true .geq 22 0,zA 24 20 23,zm 25 24,zg 26 25 true (.fld 4 (.t 4)),zg 27 25 true (.load [.int .i64] false (.t 26)),zg 28 25 true (.load [.slc] false (.t 1)),zg 29 25 true (.lenS (.t 28)),zg 30 25 true (.cmp .lss .i64 (.t 27) (.t 29)),zA 31 25 30,zm 32 31,zh 33 32 true 0,zg 34 32 true (.fld 4 (.t 4)),zg 35 32 true (.load [.int .i64] false (.t 34)),.mk (some 36) (some (32,true)) (.callv (.t 33) [.t 35]),zg 37 32 true (.not (.t 36)),zA 38 32 37] (zw 38 .ret .skip)) (.ref 1),
.seq (zs [zi 9 4,zc 10 11 [.t 9],zx 11 (.not (.t 10)),zm 12 11,zg 13 12 false (.fld 0 (.t 4)),zg 14 12 false (.load [.int .i64] false (.t 13)),zG 15 12 false .eql 14 1,zO 16 12 15] (zw 16 .ret .skip)) (.ref 2)]
def X124:XC:=zs [zL 5 [.slc] 1,zl 6 2,zd 7 5 5 6,zi 8 7,zx 4 (.alloc 47 [.int .i64 0,.int .i64 0,.int .i64 0,.int .i64 0,.int .i64 0]),zS 5 4 8] (.ref 3)
abbrev K124:List Nat:=[0,1,2,4,16,38,48]
theorem n124:Tryz.f124.ntmps=53:=by kernel_rfl
theorem r124:resT Tryz.f124.results.toList=some []:=by kernel_rfl
theorem x124:cmpF Tryz.prog Tryz.f124=some (expand T124 5 X124):=by kernel_rfl
def T125 (n:Nat):XC:=lkT n [
zs [zm 3 0,zK 4 .geq 3 13,zm 5 4,zh 6 5 true 0,zG 7 5 true .leq 6 16,zA 8 5 7,zm 2 8] .ret]
def X125:XC:=zs [zv 2 (.bool false)] (.ref 0)
abbrev K125:List Nat:=[0,2]
theorem n125:Tryz.f125.ntmps=9:=by kernel_rfl
theorem r125:resT Tryz.f125.results.toList=some [2]:=by kernel_rfl
theorem x125:cmpF Tryz.prog Tryz.f125=some (expand T125 2 X125):=by kernel_rfl
def T58 (n:Nat):XC:=lkT n [
zs [zv 2 (.slice none 0 0),zv 3 (.int .i64 2)] .ret,
zs [zm 7 0,zc 8 88 [.t 7],zm 2 8,zv 3 (.int .i64 0)] .ret,
.seq (zs [zm 4 0,ze 5 4,zK 6 .gtr 5 1024] (zw 6 (.ref 0) .skip)) (.ref 1)]
def X58:XC:=zs [zv 2 (.slice none 0 0),zv 3 (.int .i64 0)] (.ref 2)
abbrev K58:List Nat:=[0,2,3,6]
theorem n58:Tryz.f58.ntmps=9:=by kernel_rfl
theorem r58:resT Tryz.f58.results.toList=some [2,3]:=by kernel_rfl
theorem x58:cmpF Tryz.prog Tryz.f58=some (expand T58 4 X58):=by kernel_rfl
attribute [go_sem] X88 T88
attribute [go_sem] X105 T105
attribute [go_sem] X103 T103
attribute [go_sem] X104 T104
attribute [go_sem] X107 T107
attribute [go_sem] X122 T122
attribute [go_sem] X123 T123
attribute [go_sem] X124 T124
attribute [go_sem] X125 T125
attribute [go_sem] X58 T58
def T35 (n:Nat):XC:=lkT n [
zs [zm 18 5,zv 2 (.slice none 0 0),zm 3 18] .ret,
.ops [zm 33 10,zp 34 33,zm 10 34],
.seq (.blk 3 (.ops [zm 35 6,zm 36 10,zm 37 0,zm 38 10,zd 39 5 37 38,zi 40 39,zm 41 10,zc 42 60 [.t 9,.t 40,.t 41],zd 43 5 35 36,zS 5 43 42])) (.ref 1),
.seq (zs [zm 29 10,zf 30 1 8,zl 31 30,zk 32 .lss 29 31] (zw 32 .skip (.exit 2))) (.ref 2),
zs [zf 27 0 8,zl 28 27,zm 10 28] (.blk 2 (.loop (.ref 3))),
zs [zx 9 (.alloc 127 [.bool false,.int .u64 0,.bool false,.int .u64 0,.bool false,.int .u64 0,.bool false,.int .u64 0,.bool false,.int .u64 0,.bool false,.int .u64 0,.bool false,.int .u64 0,.bool false,.int .u64 0])] (.ref 4),
.seq (.blk 1 (zs [zd 25 3 21 23,zx 26 (.load [.int .i64,.int .i64,.slc] true (.t 25)),zx 8 (.alloc 123 [.int .i64 0,.int .i64 0,.slice none 0 0]),zS 3 8 26] (.ref 5))) (.ops [zp 44 23,zm 23 44]),
.seq (zw 24 .skip (.exit 0)) (.ref 6),
zs [zk 24 .lss 23 22] (.ref 7),
zs [zm 45 6,zm 2 45,zv 3 (.int .i64 0)] .ret,
.seq (zs [zm 21 4,ze 22 21,zv 23 (.int .i64 0)] (.blk 0 (.loop (.ref 8)))) (.ref 9),
zs [zm 19 0,zc 20 59 [.t 19],zm 6 20] (.ref 10),
.seq (zs [zm 16 5,zK 17 .neq 16 0] (zw 17 (.ref 0) .skip)) (.ref 11),
zs [zm 12 0,zc 13 58 [.t 12],zm 11 13,zy 14 11 0,zy 15 11 1,zm 4 14,zm 5 15] (.ref 12)]
def X35:XC:=zs [zv 2 (.slice none 0 0),zv 3 (.int .i64 0)] (.ref 13)
abbrev K35:List Nat:=[0,2,3,4,5,6,8,9,10,17,21,22,23,24,32]
theorem n35:Tryz.f35.ntmps=46:=by kernel_rfl
theorem r35:resT Tryz.f35.results.toList=some [2,3]:=by kernel_rfl
theorem x35:cmpF Tryz.prog Tryz.f35=some (expand T35 15 X35):=by kernel_rfl
def T60 (n:Nat):XC:=lkT n [
zs [zi 15 4,zS 5 6 15] .ret,
zs [zi 38 4,zS 5 6 38] .ret,
zs [zm 40 0,zx 41 (.nilc (.t 40)),zm 44 2,zi 39 4,zx 42 (.load [.bool,.int .u64,.bool,.int .u64,.bool,.int .u64,.bool,.int .u64,.bool,.int .u64,.bool,.int .u64,.bool,.int .u64,.bool,.int .u64] true (.t 41)),zc 43 90 [.t 42],.mk none none (.still 39 (.load [.int .i64,.int .i64,.int .i64,.int .i64,.int .i64] true (.t 4))),zc 45 27 [.t 39,.t 43,.t 44],zx 46 (.fldv 1 1 false (.t 45)),zx 47 (.build [.int .i64 0,.int .i64 0,.int .i64 0,.int .i64 0,.int .i64 0] [(0,1,.i 13),(4,1,.t 46)]),zS 5 6 47] .ret,
.seq (zs [zm 28 0,zx 29 (.nilc (.t 28)),zx 30 (.load [.bool,.int .u64,.bool,.int .u64,.bool,.int .u64,.bool,.int .u64,.bool,.int .u64,.bool,.int .u64,.bool,.int .u64,.bool,.int .u64] true (.t 29)),zf 31 1 4,zl 32 31,zf 33 2 4,zl 34 33,zx 35 (.buildS 3 2 1 [.int .i64 0] [(0,.t 32),(1,.t 34)]),zc 36 89 [.t 30,.t 35],zx 37 (.not (.t 36))] (zw 37 (.ref 1) .skip)) (.ref 2),
zs [zi 58 4,zS 5 6 58] .ret,
zs [zm 52 0,zf 53 1 4,zl 54 53,zx 55 (.build [.bool false,.int .u64 0] []),zx 56 (.nilc (.t 52)),zx 57 (.idxA 8 2 (.t 56) (.t 54)),zS 2 57 55] (.ref 4),
.ops [zm 67 9,zx 68 (.sub 1 (.t 67) none (some (.i 1))),zm 9 68],
zs [zi 78 4,zS 5 6 78] .ret,
zs [zf 70 0 4,zl 71 70,zK 72 .lss 71 2,zm 73 72,zg 74 73 false (.fld 0 (.t 4)),zg 75 73 false (.load [.int .i64] false (.t 74)),zG 76 73 false .gtr 75 10,zO 77 73 76,zm 69 77] (zw 69 (.ref 7) .skip),
zs [zf 64 0 4,zl 65 64,zK 66 .eql 65 3,zm 63 66] (zw 63 (.ref 6) (.ref 8)),
zw 59 (.ops [zv 9 (.slice none 0 0)]) (.ref 9),
zs [zf 60 0 4,zl 61 60,zK 62 .eql 61 2,zm 59 62] (.ref 10),
zs [zf 49 0 4,zl 50 49,zK 51 .eql 50 11,zm 48 51] (zw 48 (.ref 5) (.ref 11)),
zs [zi 91 4,zS 5 6 91] .ret,
zs [zm 85 0,zf 86 1 4,zl 87 86,zx 88 (.build [.bool false,.int .u64 0] []),zx 89 (.nilc (.t 85)),zx 90 (.idxA 8 2 (.t 89) (.t 87)),zS 2 90 88] (.ref 13),
zs [zf 120 1 4,zl 121 120,zm 122 11,zx 123 (.build [.int .i64 0,.int .i64 0,.int .i64 0,.int .i64 0,.int .i64 0] [(0,1,.i 2),(1,1,.t 121),(4,1,.t 122)]),zS 5 6 123] .ret,
zs [zf 109 0 4,zl 110 109,zK 111 .neq 110 2,zm 112 111,zh 113 112 true 11,zg 114 112 true (.cmp .geq .i64 (.t 113) (.const (.int .i64 (-2147483648)))),zA 115 112 114,zm 116 115,zh 117 116 true 11,zG 118 116 true .leq 117 2147483647,zA 119 116 118] (zw 119 (.ref 15) .skip),
zs [zi 124 4,zS 5 6 124] .ret,
.seq (zs [zm 107 10,zx 108 (.conv .i64 (.t 107)),zm 11 108] (.ref 16)) (.ref 17),
zs [zm 100 0,zf 101 1 4,zl 102 101,zm 103 10,zx 104 (.build [.bool false,.int .u64 0] [(0,1,.const (.bool true)),(1,1,.t 103)]),zx 105 (.nilc (.t 100)),zx 106 (.idxA 8 2 (.t 105) (.t 102)),zS 2 106 104] (.ref 18),
zs [zm 93 0,zx 94 (.nilc (.t 93)),zm 97 2,zi 92 4,zx 95 (.load [.bool,.int .u64,.bool,.int .u64,.bool,.int .u64,.bool,.int .u64,.bool,.int .u64,.bool,.int .u64,.bool,.int .u64,.bool,.int .u64] true (.t 94)),zc 96 90 [.t 95],.mk none none (.still 92 (.load [.int .i64,.int .i64,.int .i64,.int .i64,.int .i64] true (.t 4))),zc 98 27 [.t 92,.t 96,.t 97],zx 99 (.fldv 3 1 false (.t 98)),zm 10 99] (.ref 19),
.seq (zs [zm 79 0,zx 80 (.nilc (.t 79)),zx 81 (.load [.bool,.int .u64,.bool,.int .u64,.bool,.int .u64,.bool,.int .u64,.bool,.int .u64,.bool,.int .u64,.bool,.int .u64,.bool,.int .u64] true (.t 80)),zm 82 9,zc 83 89 [.t 81,.t 82],zx 84 (.not (.t 83))] (zw 84 (.ref 14) .skip)) (.ref 20),
.seq (.blk 0 (zs [zm 27 8,zm 26 27] (zw 26 (.ref 3) (.ref 12)))) (.ref 21),
zs [zf 21 2 4,zl 22 21,zf 23 3 4,zl 24 23,zx 25 (.buildS 3 2 1 [.int .i64 0] [(0,.t 22),(1,.t 24)]),zm 9 25] (.ref 22),
zs [zi 17 4,zc 18 61 [.t 17],zm 16 18,zy 19 16 0,zy 20 16 1,zm 7 19,zm 8 20] (.ref 23),
.seq (zs [zi 12 4,zc 13 11 [.t 12],zx 14 (.not (.t 13))] (zw 14 (.ref 0) .skip)) (.ref 24)]
def X60:XC:=zs [zx 4 (.box 47 5 (.t 1)),zx 6 (.alloc 47 [.int .i64 0,.int .i64 0,.int .i64 0,.int .i64 0,.int .i64 0])] (.ref 25)
abbrev K60:List Nat:=[0,1,2,4,6,8,9,10,11,14,26,37,48,59,63,69,84,119]
theorem n60:Tryz.f60.ntmps=125:=by kernel_rfl
theorem r60:rvOf Tryz.prog Tryz.f60.results.toList=some [RV.cell 6 5 true]:=by kernel_rfl
theorem x60:cmpF Tryz.prog Tryz.f60=some (expand T60 27 X60):=by kernel_rfl
def T89 (n:Nat):XC:=lkT n [
zs [zm 5 1,zx 6 (.mkfn (.func 109) [] [.t 2]),zc 7 108 [.t 5,.t 6],zx 8 (.not (.t 7)),zm 4 8] .ret]
def X89:XC:=zs [zx 2 (.box 127 16 (.t 0)),zv 4 (.bool false)] (.ref 0)
abbrev K89:List Nat:=[0,1,2,4]
theorem n89:Tryz.f89.ntmps=9:=by kernel_rfl
theorem r89:resT Tryz.f89.results.toList=some [4]:=by kernel_rfl
theorem x89:cmpF Tryz.prog Tryz.f89=some (expand T89 2 X89):=by kernel_rfl
def T90 (n:Nat):XC:=lkT n [
.ops [zm 10 3,zf 11 1 4,zL 12 [.int .u64] 11,zx 13 (.idxA 8 1 (.t 2) (.t 10)),zS 1 13 12],
.seq (.blk 1 (zs [zm 8 6,zx 9 (.ixA 8 2 true (.t 5) (.t 6)),zx 4 (.alloc 125 [.bool false,.int .u64 0]),zm 3 8,zS 2 4 9] (.ref 0))) (.ops [zp 14 6,zm 6 14]),
.seq (zw 7 .skip (.exit 0)) (.ref 1),
zs [zK 7 .lss 6 8] (.ref 2),
zs [zx 15 (.load [.int .u64,.int .u64,.int .u64,.int .u64,.int .u64,.int .u64,.int .u64,.int .u64] true (.t 2)),zS 8 2 15] .ret,
.seq (zs [zx 5 (.load [.bool,.int .u64,.bool,.int .u64,.bool,.int .u64,.bool,.int .u64,.bool,.int .u64,.bool,.int .u64,.bool,.int .u64,.bool,.int .u64] true (.t 1)),zv 6 (.int .i64 0)] (.blk 0 (.loop (.ref 3)))) (.ref 4)]
def X90:XC:=zs [zx 1 (.box 127 16 (.t 0)),zx 2 (.alloc 24 [.int .u64 0,.int .u64 0,.int .u64 0,.int .u64 0,.int .u64 0,.int .u64 0,.int .u64 0,.int .u64 0])] (.ref 5)
abbrev K90:List Nat:=[0,1,2,3,4,5,6,7]
theorem n90:Tryz.f90.ntmps=16:=by kernel_rfl
theorem r90:rvOf Tryz.prog Tryz.f90.results.toList=some [RV.cell 2 8 true]:=by kernel_rfl
theorem x90:cmpF Tryz.prog Tryz.f90=some (expand T90 7 X90):=by kernel_rfl
def T108 (n:Nat):XC:=lkT n [
zs [zm 5 0,zm 6 1,zc 7 128 [.t 5,.t 6],zK 8 .geq 7 0,zm 4 8] .ret]
def X108:XC:=zs [zv 4 (.bool false)] (.ref 0)
abbrev K108:List Nat:=[0,1,4]
theorem n108:Tryz.f108.ntmps=9:=by kernel_rfl
theorem r108:resT Tryz.f108.results.toList=some [4]:=by kernel_rfl
theorem x108:cmpF Tryz.prog Tryz.f108=some (expand T108 2 X108):=by kernel_rfl
def T109 (n:Nat):XC:=lkT n [
zs [zm 4 0,zx 5 (.idxA 8 2 (.t 1) (.t 4)),zx 6 (.load [.bool,.int .u64] true (.t 5)),zx 7 (.build [.bool false,.int .u64 0] []),zx 8 (.eqa false [.bool,.int .u64] (.t 6) (.t 7)),zm 3 8] .ret]
def X109:XC:=zs [zv 3 (.bool false)] (.ref 0)
abbrev K109:List Nat:=[0,1,3]
theorem n109:Tryz.f109.ntmps=9:=by kernel_rfl
theorem r109:resT Tryz.f109.results.toList=some [3]:=by kernel_rfl
theorem x109:cmpF Tryz.prog Tryz.f109=some (expand T109 2 X109):=by kernel_rfl
def T128 (n:Nat):XC:=lkT n [
zs [zm 17 5,zm 4 17] .ret,
zs [zm 11 1,zm 12 0,zm 13 5,zd 14 1 12 13,zl 15 14,.mk (some 16) none (.callv (.t 11) [.t 15])] (zw 16 (.ref 0) .skip),
.seq (.blk 1 (zs [zm 10 8,zm 5 10] (.ref 1))) (.ops [zp 18 8,zm 8 18]),
.seq (zw 9 .skip (.exit 0)) (.ref 2),
zs [zk 9 .lss 8 7] (.ref 3),
zs [zv 4 (.int .i64 (-1))] .ret,
.seq (zs [zm 6 0,ze 7 6,zv 8 (.int .i64 0)] (.blk 0 (.loop (.ref 4)))) (.ref 5)]
def X128:XC:=zs [zv 4 (.int .i64 0)] (.ref 6)
abbrev K128:List Nat:=[0,1,4,5,7,8,9,16]
theorem n128:Tryz.f128.ntmps=19:=by kernel_rfl
theorem r128:resT Tryz.f128.results.toList=some [4]:=by kernel_rfl
theorem x128:cmpF Tryz.prog Tryz.f128=some (expand T128 8 X128):=by kernel_rfl
attribute [go_sem] X35 T35
attribute [go_sem] X60 T60
attribute [go_sem] X89 T89
attribute [go_sem] X90 T90
attribute [go_sem] X108 T108
attribute [go_sem] X109 T109
attribute [go_sem] X128 T128
end Go.Proofs.YtgghmmjoplddbaaGreatDoor
