/- Printed by program: the small code of functions, and that it is theirs. -/
import Derived.Test.YtgghmmjoplddbaaGreatDoorSxStill
import Derived.Test.YtgghmmjoplddbaaGreatDoorProg
import Derived.KernelRfl
set_option linter.unusedSimpArgs false
set_option linter.unusedVariables false
set_option linter.unnecessarySimpa false
namespace Go.Proofs.YtgghmmjoplddbaaGreatDoor
open Go Go.Sx
set_option maxRecDepth 100000
def T116 (n:Nat):XC:=lkT n [
zs [zi 26 6,zS 5 2 26,zv 3 (.int .i64 0)] .ret,
zs [zm 25 7] (zw 25 (.ref 0) .skip),
zs [zx 27 (.build [.int .i64 0,.int .i64 0,.int .i64 0,.int .i64 0,.int .i64 0] []),zS 5 2 27,zv 3 (.int .i64 2)] .ret,
.seq (zs [zm 20 5,zx 21 (.build [.int .i64 0,.int .i64 0,.int .i64 0,.int .i64 0,.int .i64 0] []),.mk (some 22) none (.callv (.t 20) [.t 21,.const (.string (ByteArray.mk (Array.mk [UInt8.ofNat 79,UInt8.ofNat 65,UInt8.ofNat 66,UInt8.ofNat 67,UInt8.ofNat 73])))]),zm 19 22,zy 23 19 0,zy 24 19 1,zx 6 (.alloc 47 [.int .i64 0,.int .i64 0,.int .i64 0,.int .i64 0,.int .i64 0]),zS 5 6 23,zm 7 24] (.ref 1)) (.ref 2),
zs [zi 53 10,zS 5 2 53,zv 3 (.int .i64 0)] .ret,
zs [zm 52 11] (zw 52 (.ref 4) .skip),
zs [zm 44 5,zm 45 8,zx 46 (.build [.int .i64 0,.int .i64 0,.int .i64 0,.int .i64 0,.int .i64 0] [(0,1,.t 45)]),zf 47 1 9,zL 48 [.str] 47,.mk (some 49) none (.callv (.t 44) [.t 46,.t 48]),zm 43 49,zy 50 43 0,zy 51 43 1,zx 10 (.alloc 47 [.int .i64 0,.int .i64 0,.int .i64 0,.int .i64 0,.int .i64 0]),zS 5 10 50,zm 11 51] (.ref 5),
.seq (zs [zm 33 8,zK 34 .lss 33 1,zm 35 34,zg 36 35 false (.fld 0 (.t 9)),zg 37 35 false (.load [.str] false (.t 36)),zg 38 35 false (.load [.slc] false (.t 4)),zg 39 35 false (.idx 1 (.t 38) (.i 0)),zg 40 35 false (.load [.str] false (.t 39)),zg 41 35 false (.eqs .neq (.t 37) (.t 40)),zO 42 35 41] (zw 42 (.exit 1) .skip)) (.ref 6),
.seq (.blk 1 (zs [zm 31 29,zx 32 (.ixA 19 2 true (.t 28) (.t 29)),zx 9 (.alloc 113 [.string (ByteArray.mk (Array.mk [])),.string (ByteArray.mk (Array.mk []))]),zm 8 31,zS 2 9 32] (.ref 7))) (.ops [zp 54 29,zm 29 54]),
.seq (zw 30 .skip (.exit 0)) (.ref 8),
zs [zK 30 .lss 29 19] (.ref 9),
zs [zx 55 (.build [.int .i64 0,.int .i64 0,.int .i64 0,.int .i64 0,.int .i64 0] []),zS 5 2 55,zv 3 (.int .i64 2)] .ret,
.seq (zs [zx 28 (.load [.str,.str,.str,.str,.str,.str,.str,.str,.str,.str,.str,.str,.str,.str,.str,.str,.str,.str,.str,.str,.str,.str,.str,.str,.str,.str,.str,.str,.str,.str,.str,.str,.str,.str,.str,.str,.str,.str] true (.global 0)),zv 29 (.int .i64 0)] (.blk 0 (.loop (.ref 10)))) (.ref 11),
.seq (zs [zL 15 [.slc] 4,zx 16 (.idx 1 (.t 15) (.i 0)),zL 17 [.str] 16,zx 18 (.eqs .eql (.t 17) (.const (.string (ByteArray.mk (Array.mk [UInt8.ofNat 114,UInt8.ofNat 97,UInt8.ofNat 119])))))] (zw 18 (.ref 3) .skip)) (.seq (.lab) (.ref 12)),
zs [zx 14 (.mkfn (.func 140) [] [.t 4,.t 1]),zm 5 14] (.ref 13),
.scp (zs [zL 12 [.str] 1,.mk (some 13) none (.call 111 [.t 12,.const (.string (ByteArray.mk (Array.mk [UInt8.ofNat 32])))]),zx 4 (.alloc 94 [.slice none 0 0]),zS 1 4 13] (.ref 14))]
def X116:XC:=zs [zx 1 (.box 9 1 (.t 0)),zx 2 (.alloc 47 [.int .i64 0,.int .i64 0,.int .i64 0,.int .i64 0,.int .i64 0]),zv 3 (.int .i64 0)] (.ref 15)
abbrev K116:List Nat:=[0,1,2,3,4,5,6,7,8,9,10,11,18,25,28,29,30,42,52]
theorem n116:Tryz.f116.ntmps=56:=by kernel_rfl
theorem r116:rvOf Tryz.prog Tryz.f116.results.toList=some [RV.cell 2 5 true,RV.tmp 3]:=by kernel_rfl
theorem x116:cmpF Tryz.prog Tryz.f116=some (expand T116 17 X116):=by kernel_rfl
def T139 (n:Nat):XC:=lkT n [
.ops [zf 9 0 1,zl 10 9,zx 11 (.idxA 19 2 (.global 0) (.t 10)),zf 12 0 11,zL 13 [.str] 12,zf 14 0 1,zl 15 14,zx 16 (.idxA 19 2 (.global 0) (.t 15)),zf 17 1 16,zL 18 [.str] 17,zm 3 13,zm 4 18],
.ops [zm 26 3,zm 27 6,zc 28 142 [.t 1,.t 27],zx 29 (.nilc (.t 28)),zl 30 29,zc 31 68 [.t 30],zx 32 (.cat (.const (.string (ByteArray.mk (Array.mk [UInt8.ofNat 32])))) (.t 31)),zx 33 (.cat (.t 26) (.t 32)),zm 3 33],
.seq (.blk 1 (zs [zd 24 1 20 22,zL 25 [.int .u8] 24,zm 6 25] (.ref 1))) (.ops [zp 34 22,zm 22 34]),
.seq (zw 23 .skip (.exit 0)) (.ref 2),
zs [zk 23 .lss 22 21] (.ref 3),
zs [zm 35 3,zm 2 35] .ret,
.seq (zs [zm 19 4,zx 20 (.s2b 5 (.t 19)),ze 21 20,zv 22 (.int .i64 0)] (.blk 0 (.loop (.ref 4)))) (.ref 5),
.seq (zs [zi 7 1,zc 8 167 [.t 7]] (zw 8 (.ref 0) .skip)) (.ref 6),
zs [zx 3 (.mov (.const (.string (ByteArray.mk (Array.mk [UInt8.ofNat 114,UInt8.ofNat 97,UInt8.ofNat 119]))))),zx 4 (.mov (.const (.string (ByteArray.mk (Array.mk [UInt8.ofNat 79,UInt8.ofNat 65,UInt8.ofNat 66,UInt8.ofNat 67,UInt8.ofNat 73])))))] (.ref 7)]
def X139:XC:=zs [zx 1 (.box 47 5 (.t 0)),zx 2 (.mov (.const (.string (ByteArray.mk (Array.mk [])))))] (.ref 8)
abbrev K139:List Nat:=[0,1,2,3,4,6,8,20,21,22,23]
theorem n139:Tryz.f139.ntmps=36:=by kernel_rfl
theorem r139:resT Tryz.f139.results.toList=some [2]:=by kernel_rfl
theorem x139:cmpF Tryz.prog Tryz.f139=some (expand T139 10 X139):=by kernel_rfl
def T140 (n:Nat):XC:=lkT n [
zs [zi 18 4,zS 5 6 18,zv 7 (.bool false)] .ret,
zs [zi 34 4,zS 5 6 34,zv 7 (.bool false)] .ret,
.ops [zm 35 1,zm 36 8,zx 37 (.ixT (.t 35) (.t 36)),zc 38 142 [.t 4,.t 37],zm 39 10,zx 40 (.nilc (.t 38)),zS 1 40 39],
.seq (zs [zm 32 11,zx 33 (.eqif true 215 (.t 32) (.const .nilIface))] (zw 33 (.ref 1) .skip)) (.ref 2),
zs [zm 28 9,zc 29 141 [.t 28],zm 27 29,zy 30 27 0,zy 31 27 1,zm 10 30,zm 11 31] (.ref 3),
.seq (.blk 1 (zs [zm 24 22,zd 25 1 20 22,zL 26 [.str] 25,zm 8 24,zm 9 26] (.ref 4))) (.ops [zp 41 22,zm 22 41]),
.seq (zw 23 .skip (.exit 0)) (.ref 5),
zs [zk 23 .lss 22 21] (.ref 6),
zs [zi 42 4,zi 43 4,zL 45 [.str] 3,zc 44 139 [.t 43],.mk none none (.still 45 (.load [.str] false (.t 3))),.mk none none (.still 42 (.load [.int .i64,.int .i64,.int .i64,.int .i64,.int .i64] true (.t 4))),zx 46 (.eqs .eql (.t 44) (.t 45)),zS 5 6 42,.mk none none (.still 45 (.load [.str] false (.t 3))),zm 7 46] .ret,
.seq (zs [zL 19 [.slc] 2,zx 20 (.sub 1 (.t 19) (some (.i 1)) none),ze 21 20,zv 22 (.int .i64 0)] (.blk 0 (.loop (.ref 7)))) (.ref 8),
.seq (zs [zL 12 [.slc] 2,ze 13 12,zm 14 1,zx 15 (.lenT (.t 14)),zp 16 15,zk 17 .neq 13 16] (zw 17 (.ref 0) .skip)) (.ref 9)]
def X140:XC:=zs [zx 4 (.box 47 5 (.t 0)),zx 6 (.alloc 47 [.int .i64 0,.int .i64 0,.int .i64 0,.int .i64 0,.int .i64 0]),zv 7 (.bool false)] (.ref 10)
abbrev K140:List Nat:=[0,1,2,3,4,6,7,8,9,10,11,17,20,21,22,23,33]
theorem n140:Tryz.f140.ntmps=47:=by kernel_rfl
theorem r140:rvOf Tryz.prog Tryz.f140.results.toList=some [RV.cell 6 5 true,RV.tmp 7]:=by kernel_rfl
theorem x140:cmpF Tryz.prog Tryz.f140=some (expand T140 12 X140):=by kernel_rfl
def T142 (n:Nat):XC:=lkT n [
zs [zm 8 0,zx 9 (.nilc (.t 8)),zf 10 1 9,zm 4 10] .ret,
zs [zm 13 0,zx 14 (.nilc (.t 13)),zf 15 2 14,zm 4 15] .ret,
zs [zm 18 0,zx 19 (.nilc (.t 18)),zf 20 3 19,zm 4 20] .ret,
zs [zm 23 0,zx 24 (.nilc (.t 23)),zf 25 4 24,zm 4 25] .ret,
zs [zx 22 (.cmp .eql .u8 (.t 5) (.const (.int .u8 73))),zm 21 22] (zw 21 (.ref 3) .skip),
zs [zx 17 (.cmp .eql .u8 (.t 5) (.const (.int .u8 67))),zm 16 17] (zw 16 (.ref 2) (.ref 4)),
zs [zx 12 (.cmp .eql .u8 (.t 5) (.const (.int .u8 66))),zm 11 12] (zw 11 (.ref 1) (.ref 5)),
.blk 0 (zs [zx 7 (.cmp .eql .u8 (.t 5) (.const (.int .u8 65))),zm 6 7] (zw 6 (.ref 0) (.ref 6))),
zs [zm 26 0,zx 27 (.nilc (.t 26)),zf 28 0 27,zm 4 28] .ret,
.seq (zs [zm 5 1] (.ref 7)) (.ref 8)]
def X142:XC:=zs [zv 4 (.pointer none)] (.ref 9)
abbrev K142:List Nat:=[0,1,4,5,6,11,16,21]
theorem n142:Tryz.f142.ntmps=29:=by kernel_rfl
theorem r142:resT Tryz.f142.results.toList=some [4]:=by kernel_rfl
theorem x142:cmpF Tryz.prog Tryz.f142=some (expand T142 11 X142):=by kernel_rfl
def T167 (n:Nat):XC:=lkT n [
zs [zv 2 (.bool false)] .ret,
zs [zv 2 (.bool false)] .ret,
zs [zf 15 0 1,zl 16 15,zx 17 (.idxA 19 2 (.global 0) (.t 16)),zf 18 1 17,zL 19 [.str] 18,zm 20 4,zc 21 31 [.t 19,.t 20],zK 22 .lss 21 0,zm 23 22,zh 24 23 true 4,.mk (some 25) (some (23,true)) (.call 142 [.t 1,.t 24]),zg 26 23 true (.nilc (.t 25)),zg 27 23 true (.load [.int .i64] false (.t 26)),zG 28 23 true .neq 27 0,zA 29 23 28] (zw 29 (.ref 1) .skip),
.seq (.blk 1 (zs [zd 13 1 9 11,zL 14 [.int .u8] 13,zm 4 14] (.ref 2))) (.ops [zp 30 11,zm 11 30]),
.seq (zw 12 .skip (.exit 0)) (.ref 3),
zs [zk 12 .lss 11 10] (.ref 4),
zs [zv 2 (.bool true)] .ret,
.seq (zs [zx 8 (.buildS 5 4 1 [.int .u8 0] [(0,.const (.int .u8 65)),(1,.const (.int .u8 66)),(2,.const (.int .u8 67)),(3,.const (.int .u8 73))]),zx 9 (.mrk (.t 8)),ze 10 9,zv 11 (.int .i64 0)] (.blk 0 (.loop (.ref 5)))) (.ref 6),
.seq (zs [zi 5 1,zc 6 11 [.t 5],zx 7 (.not (.t 6))] (zw 7 (.ref 0) .skip)) (.ref 7)]
def X167:XC:=zs [zx 1 (.box 47 5 (.t 0)),zv 2 (.bool false)] (.ref 8)
abbrev K167:List Nat:=[0,1,2,4,7,9,10,11,12,29]
theorem n167:Tryz.f167.ntmps=31:=by kernel_rfl
theorem r167:resT Tryz.f167.results.toList=some [2]:=by kernel_rfl
theorem x167:cmpF Tryz.prog Tryz.f167=some (expand T167 10 X167):=by kernel_rfl
attribute [go_sem] X116 T116
attribute [go_sem] X139 T139
attribute [go_sem] X140 T140
attribute [go_sem] X142 T142
attribute [go_sem] X167 T167
def T40 (n:Nat):XC:=lkT n [
zs [zm 27 8,zv 2 (.slice none 0 0),zm 3 27,zv 4 (.int .i64 150)] .ret,
zs [zm 25 8,zK 26 .gtr 25 0] (zw 26 (.ref 0) .skip),
.ops [zm 35 9,zf 36 0 11,zL 37 [.str] 36,zf 38 1 11,zl 39 38,zn (.mupd .str (.t 35) (.t 37) (.t 39))],
.seq (.blk 1 (zs [zd 33 2 29 31,zx 34 (.load [.str,.int .i64] true (.t 33)),zx 11 (.alloc 143 [.string (ByteArray.mk (Array.mk [])),.int .i64 0]),zS 2 11 34] (.ref 2))) (.ops [zp 40 31,zm 31 40]),
.seq (zw 32 .skip (.exit 0)) (.ref 3),
zs [zk 32 .lss 31 30] (.ref 4),
.ops [zm 50 9,zf 51 6 14,zL 52 [.str] 51,zx 53 (.lkup .str (.int .i64 0) false (.t 50) (.t 52)),zf 54 1 14,zf 55 4 54,zS 1 55 53],
.ops [zm 56 12,zf 57 1 14,zi 58 57,zx 59 (.buildS 47 1 5 [.int .i64 0,.int .i64 0,.int .i64 0,.int .i64 0,.int .i64 0] [(0,.t 58)]),zx 60 (.app 47 5 40 (.t 56) (.t 59)),zm 12 60],
.seq (zs [zf 47 6 14,zL 48 [.str] 47,zx 49 (.eqs .neq (.t 48) (.const (.string (ByteArray.mk (Array.mk [])))))] (zw 49 (.ref 6) .skip)) (.ref 7),
.seq (.blk 3 (zs [zd 45 7 41 43,zx 46 (.load [.int .i64,.int .i64,.int .i64,.int .i64,.int .i64,.int .i64,.str] true (.t 45)),zx 14 (.alloc 145 [.int .i64 0,.int .i64 0,.int .i64 0,.int .i64 0,.int .i64 0,.int .i64 0,.string (ByteArray.mk (Array.mk []))]),zS 7 14 46] (.ref 8))) (.ops [zp 61 43,zm 43 61]),
.seq (zw 44 .skip (.exit 2)) (.ref 9),
zs [zk 44 .lss 43 42] (.ref 10),
zs [zm 62 12,zm 2 62,zv 3 (.int .i64 0),zv 4 (.int .i64 0)] .ret,
.seq (zs [zm 41 5,ze 42 41,zv 43 (.int .i64 0)] (.blk 2 (.loop (.ref 11)))) (.ref 12),
zs [zv 12 (.slice none 0 0)] (.ref 13),
.seq (zs [zm 29 6,ze 30 29,zv 31 (.int .i64 0)] (.blk 0 (.loop (.ref 5)))) (.ref 14),
zs [.mk (some 28) none (.k .mkmap),zm 9 28] (.ref 15),
.seq (zs [zm 21 0,zm 22 5,zm 23 7,zc 24 67 [.t 21,.t 22,.t 23],zm 8 24] (.ref 1)) (.ref 16),
zs [zm 16 0,zc 17 66 [.t 16],zm 15 17,zy 18 15 0,zy 19 15 1,zy 20 15 2,zm 5 18,zm 6 19,zm 7 20] (.ref 17)]
def X40:XC:=zs [zv 2 (.slice none 0 0),zv 3 (.int .i64 0),zv 4 (.int .i64 0)] (.ref 18)
abbrev K40:List Nat:=[0,2,3,4,5,6,7,8,9,11,12,14,26,29,30,31,32,41,42,43,44,49]
theorem n40:Tryz.f40.ntmps=63:=by kernel_rfl
theorem r40:resT Tryz.f40.results.toList=some [2,3,4]:=by kernel_rfl
theorem x40:cmpF Tryz.prog Tryz.f40=some (expand T40 20 X40):=by kernel_rfl
def T66n9:XC:=.seq (.ops [zm 47 9,zc 48 95 [.tmp 47],zm 46 48,zy 49 46 0,zy 50 46 1,zy 51 46 2,zx 12 (.alloc 47 [.int .i64 0,.int .i64 0,.int .i64 0,.int .i64 0,.int .i64 0]),zn (.store 5 (.tmp 12) (.tmp 49)),zm 13 50,zm 14 51]) (.ref 8)
def T66 (n:Nat):XC:=lkT n [
zs [zm 8 18] (.ops [zm 9 19]),
zs [zL 34 [.slc] 5,zL 35 [.slc] 6,zm 36 8,zS 1 2 34,.mk none none (.still 35 (.load [.slc] false (.t 6))),zS 1 3 35,zS 1 4 36] .ret,
zs [zL 39 [.slc] 6,zm 40 10,zL 41 [.slc] 5,ze 42 41,zx 43 (.build [.string (ByteArray.mk (Array.mk [])),.int .i64 0] [(0,1,.t 40),(1,1,.t 42)]),zx 44 (.buildS 143 1 2 [.string (ByteArray.mk (Array.mk [])),.int .i64 0] [(0,.t 43)]),zx 45 (.app 143 2 24 (.t 39) (.t 44)),zS 1 6 45] (.exit 1),
zs [zL 37 [.map] 7,zm 38 10,zn (.mupd .str (.t 37) (.t 38) (.i 1))] (.ref 2),
.seq (zs [zL 30 [.map] 7,zm 31 10,zx 32 (.lkup .str (.int .i64 0) false (.t 30) (.t 31)),zK 33 .gtr 32 0] (zw 33 (.ref 1) .skip)) (.ref 3),
zs [zm 25 11,zm 26 25,zh 27 26 true 10,.mk (some 28) (some (26,true)) (.call 94 [.t 27]),zA 29 26 28] (zw 29 (.ref 4) .skip),
zs [zL 59 [.slc] 5,zL 60 [.slc] 6,zm 61 8,zS 1 2 59,.mk none none (.still 60 (.load [.slc] false (.t 6))),zS 1 3 60,zS 1 4 61] .ret,
.ops [zL 62 [.slc] 5,zm 63 8,zi 64 12,zm 65 13,zx 66 (.build [.int .i64 0,.int .i64 0,.int .i64 0,.int .i64 0,.int .i64 0,.int .i64 0,.string (ByteArray.mk (Array.mk []))] [(0,1,.t 63),(1,5,.t 64),(6,1,.t 65)]),zx 67 (.buildS 145 1 7 [.int .i64 0,.int .i64 0,.int .i64 0,.int .i64 0,.int .i64 0,.int .i64 0,.string (ByteArray.mk (Array.mk []))] [(0,.t 66)]),zx 68 (.app 145 7 64 (.t 62) (.t 67)),zS 1 5 68],
.seq (zs [zm 52 14,zx 53 (.not (.t 52)),zm 54 53,zg 55 54 false (.load [.slc] false (.t 5)),zg 56 54 false (.lenS (.t 55)),zG 57 54 false .geq 56 1024,zO 58 54 57] (zw 58 (.ref 6) .skip)) (.ref 7),
T66n9,
.blk 1 (.seq (zs [zm 21 9,.mk (some 22) none (.call 93 [.t 21,.const (.string (ByteArray.mk (Array.mk [UInt8.ofNat 58])))]),zm 20 22,zy 23 20 0,zy 24 20 1,zm 10 23,zm 11 24] (.ref 5)) (.ref 9)),
.blk 0 (.rng (.t 17) [18,19] (.ref 0) (.ref 10)),
zs [zL 69 [.slc] 5,zL 70 [.slc] 6,zS 1 2 69,.mk none none (.still 70 (.load [.slc] false (.t 6))),zS 1 3 70,zn (.store 1 (.t 4) (.i 0))] .ret,
.seq (zs [zm 16 0,zc 17 92 [.t 16]] (.ref 11)) (.ref 12),
zs [.mk (some 15) none (.k .mkmap),zx 7 (.alloc 141 [.map none]),zS 1 7 15] (.ref 13),
zs [zx 6 (.alloc 137 [.slice none 0 0])] (.ref 14),
zs [zx 5 (.alloc 136 [.slice none 0 0])] (.ref 15)]
def X66:XC:=zs [zx 2 (.alloc 136 [.slice none 0 0]),zx 3 (.alloc 137 [.slice none 0 0]),zx 4 (.alloc 3 [.int .i64 0])] (.ref 16)
abbrev K66:List Nat:=[0,2,3,4,5,6,7,8,9,10,11,12,13,14,17,18,19,29,33,58]
theorem n66:Tryz.f66.ntmps=71:=by kernel_rfl
theorem r66:rvOf Tryz.prog Tryz.f66.results.toList=some [RV.cell 2 1 false,RV.cell 3 1 false,RV.cell 4 1 false]:=by kernel_rfl
theorem x66:cmpF Tryz.prog Tryz.f66=some (expand T66 18 X66):=by kernel_rfl
def T67 (n:Nat):XC:=lkT n [
zs [zf 28 0 9,zl 29 28,zm 6 29] .ret,
zs [zf 18 6 9,zL 19 [.str] 18,zx 20 (.eqs .neq (.t 19) (.const (.string (ByteArray.mk (Array.mk []))))),zm 21 20,zh 22 21 true 7,zg 23 21 true (.fld 6 (.t 9)),zg 24 21 true (.load [.str] false (.t 23)),zg 25 21 true (.lkup .str (.int .i64 0) false (.t 22) (.t 24)),zG 26 21 true .eql 25 0,zA 27 21 26] (zw 27 (.ref 0) .skip),
.seq (.blk 1 (zs [zd 16 7 12 14,zx 17 (.load [.int .i64,.int .i64,.int .i64,.int .i64,.int .i64,.int .i64,.str] true (.t 16)),zx 9 (.alloc 145 [.int .i64 0,.int .i64 0,.int .i64 0,.int .i64 0,.int .i64 0,.int .i64 0,.string (ByteArray.mk (Array.mk []))]),zS 7 9 17] (.ref 1))) (.ops [zp 30 14,zm 14 30]),
.seq (zw 15 .skip (.exit 0)) (.ref 2),
zs [zk 15 .lss 14 13] (.ref 3),
zs [zm 31 2,zm 6 31] .ret,
.seq (zs [zm 12 1,ze 13 12,zv 14 (.int .i64 0)] (.blk 0 (.loop (.ref 4)))) (.ref 5),
zs [zm 10 0,zc 11 96 [.t 10],zm 7 11] (.ref 6)]
def X67:XC:=zs [zv 6 (.int .i64 0)] (.ref 7)
abbrev K67:List Nat:=[0,1,2,6,7,9,12,13,14,15,27]
theorem n67:Tryz.f67.ntmps=32:=by kernel_rfl
theorem r67:resT Tryz.f67.results.toList=some [6]:=by kernel_rfl
theorem x67:cmpF Tryz.prog Tryz.f67=some (expand T67 9 X67):=by kernel_rfl
def T92 (n:Nat):XC:=lkT n [
zs [zx 3 (.mkfn (.func 110) [] [.t 1]),zm 2 3] .ret]
def X92:XC:=zs [zx 1 (.box 9 1 (.t 0)),zv 2 .nilFunc] (.ref 0)
abbrev K92:List Nat:=[0,1,2]
theorem n92:Tryz.f92.ntmps=4:=by kernel_rfl
theorem r92:resT Tryz.f92.results.toList=some [2]:=by kernel_rfl
theorem x92:cmpF Tryz.prog Tryz.f92=some (expand T92 2 X92):=by kernel_rfl
def T94 (n:Nat):XC:=lkT n [
zs [zv 2 (.bool false)] .ret,
zs [zv 2 (.bool false)] .ret,
zs [zm 31 4,zx 32 (.cmp .lss .u8 (.t 31) (.const (.int .u8 97))),zm 33 32,zh 34 33 false 4,zg 35 33 false (.cmp .gtr .u8 (.t 34) (.const (.int .u8 122))),zO 36 33 35,zm 37 36,zh 38 37 true 4,zg 39 37 true (.cmp .lss .u8 (.t 38) (.const (.int .u8 48))),zh 40 37 true 39,zh 41 40 false 4,zg 42 40 false (.cmp .gtr .u8 (.t 41) (.const (.int .u8 57))),zg 43 37 true (.pick (.t 40) (.const (.bool true)) (.t 42)),zA 44 37 43,zm 45 44,zh 46 45 true 4,zg 47 45 true (.cmp .neq .u8 (.t 46) (.const (.int .u8 95))),zA 48 45 47] (zw 48 (.ref 1) .skip),
zs [zm 28 0,zm 29 3,zx 30 (.ixT (.t 28) (.t 29)),zm 4 30] (.ref 2),
.seq (.blk 1 (zs [zm 27 25,zm 3 27] (.ref 3))) (.ops [zp 49 25,zm 25 49]),
.seq (zw 26 .skip (.exit 0)) (.ref 4),
zs [zk 26 .lss 25 24] (.ref 5),
zs [zm 50 0,zc 51 115 [.t 50],zx 52 (.not (.t 51)),zm 2 52] .ret,
.seq (zs [zm 23 0,zx 24 (.lenT (.t 23)),zv 25 (.int .i64 0)] (.blk 0 (.loop (.ref 6)))) (.ref 7),
.seq (zs [zm 5 0,zx 6 (.lenT (.t 5)),zK 7 .lss 6 1,zm 8 7,zh 9 8 false 0,zg 10 8 false (.lenT (.t 9)),zG 11 8 false .gtr 10 16,zO 12 8 11,zm 13 12,zh 14 13 false 0,zg 15 13 false (.ixT (.t 14) (.i 0)),zg 16 13 false (.cmp .lss .u8 (.t 15) (.const (.int .u8 97))),zO 17 13 16,zm 18 17,zh 19 18 false 0,zg 20 18 false (.ixT (.t 19) (.i 0)),zg 21 18 false (.cmp .gtr .u8 (.t 20) (.const (.int .u8 122))),zO 22 18 21] (zw 22 (.ref 0) .skip)) (.ref 8)]
def X94:XC:=zs [zv 2 (.bool false)] (.ref 9)
abbrev K94:List Nat:=[0,2,3,4,22,24,25,26,48]
theorem n94:Tryz.f94.ntmps=53:=by kernel_rfl
theorem r94:resT Tryz.f94.results.toList=some [2]:=by kernel_rfl
theorem x94:cmpF Tryz.prog Tryz.f94=some (expand T94 11 X94):=by kernel_rfl
def T95 (n:Nat):XC:=lkT n [
zs [zi 15 5,zS 5 2 15,zx 3 (.mov (.const (.string (ByteArray.mk (Array.mk []))))),zv 4 (.bool true)] .ret,
zs [zx 28 (.build [.int .i64 0,.int .i64 0,.int .i64 0,.int .i64 0,.int .i64 0] []),zS 5 2 28,zx 3 (.mov (.const (.string (ByteArray.mk (Array.mk []))))),zv 4 (.bool false)] .ret,
zs [zx 54 (.build [.int .i64 0,.int .i64 0,.int .i64 0,.int .i64 0,.int .i64 0] []),zS 5 2 54,zx 3 (.mov (.const (.string (ByteArray.mk (Array.mk []))))),zv 4 (.bool false)] .ret,
zs [zi 55 5,zm 56 0,zm 57 7,zp 58 57,zx 59 (.subT (.t 56) (some (.t 58)) none),zS 5 2 55,zm 3 59,zv 4 (.bool true)] .ret,
.seq (zs [zm 37 6,zK 38 .neq 37 0,zm 39 38,zg 40 39 false (.fld 0 (.t 5)),zg 41 39 false (.load [.int .i64] false (.t 40)),.mk (some 42) (some (39,false)) (.call 118 [.t 41]),zg 43 39 false (.not (.t 42)),zO 44 39 43,zm 45 44,zg 46 45 false (.load [.int .i64,.int .i64,.int .i64,.int .i64,.int .i64] true (.t 5)),.mk (some 47) (some (45,false)) (.call 11 [.t 46]),zg 48 45 false (.not (.t 47)),zO 49 45 48,zm 50 49,zh 51 50 false 0,.mk (some 52) (some (50,false)) (.call 119 [.t 51,.const (.string (ByteArray.mk (Array.mk [UInt8.ofNat 114,UInt8.ofNat 97,UInt8.ofNat 119])))]),zO 53 50 52] (zw 53 (.ref 2) .skip)) (.ref 3),
zs [zm 30 0,zm 31 7,zx 32 (.subT (.t 30) none (some (.t 31))),zx 33 (.cat (.t 32) (.const (.string (ByteArray.mk (Array.mk [UInt8.ofNat 32,UInt8.ofNat 48]))))),zc 34 116 [.t 33],zm 29 34,zy 35 29 0,zy 36 29 1,zS 5 5 35,zm 6 36] (.ref 4),
.seq (zs [zm 18 7,zK 19 .lss 18 0,zm 20 19,zh 21 20 false 0,zh 22 20 false 7,zg 23 20 false (.arith .add .i64 (.t 22) (.i 1)),zg 24 20 false (.subT (.t 21) (some (.t 23)) none),.mk (some 25) (some (20,false)) (.call 94 [.t 24]),zg 26 20 false (.not (.t 25)),zO 27 20 26] (zw 27 (.ref 1) .skip)) (.ref 5),
zs [zm 16 0,zc 17 117 [.t 16,.const (.int .u8 32)],zm 7 17] (.ref 6),
.seq (zs [zm 13 6,zK 14 .eql 13 0] (zw 14 (.ref 0) .skip)) (.ref 7),
zs [zm 9 0,zc 10 116 [.t 9],zm 8 10,zy 11 8 0,zy 12 8 1,zx 5 (.alloc 47 [.int .i64 0,.int .i64 0,.int .i64 0,.int .i64 0,.int .i64 0]),zS 5 5 11,zm 6 12] (.ref 8)]
def X95:XC:=zs [zx 2 (.alloc 47 [.int .i64 0,.int .i64 0,.int .i64 0,.int .i64 0,.int .i64 0]),zx 3 (.mov (.const (.string (ByteArray.mk (Array.mk []))))),zv 4 (.bool false)] (.ref 9)
abbrev K95:List Nat:=[0,2,3,4,5,6,7,14,27,53]
theorem n95:Tryz.f95.ntmps=60:=by kernel_rfl
theorem r95:rvOf Tryz.prog Tryz.f95.results.toList=some [RV.cell 2 5 true,RV.tmp 3,RV.tmp 4]:=by kernel_rfl
theorem x95:cmpF Tryz.prog Tryz.f95=some (expand T95 11 X95):=by kernel_rfl
def T96 (n:Nat):XC:=lkT n [
.ops [zL 23 [.map] 3,zm 24 6,zn (.mupd .str (.t 23) (.t 24) (.i 1))],
zs [zm 18 7,zm 19 18,zh 20 19 true 6,.mk (some 21) (some (19,true)) (.call 94 [.t 20]),zA 22 19 21] (zw 22 (.ref 0) .skip),
.blk 1 (zs [zm 14 5,.mk (some 15) none (.call 93 [.t 14,.const (.string (ByteArray.mk (Array.mk [UInt8.ofNat 58])))]),zm 13 15,zy 16 13 0,zy 17 13 1,zm 6 16,zm 7 17] (.ref 1)),
.blk 0 (.rng (.t 10) [11,12] (.ops [zm 5 12]) (.ref 2)),
zs [zL 25 [.map] 3,zm 2 25] .ret,
.seq (zs [zm 9 0,zc 10 92 [.t 9]] (.ref 3)) (.ref 4),
zs [.mk (some 8) none (.k .mkmap),zx 3 (.alloc 141 [.map none]),zS 1 3 8] (.ref 5)]
def X96:XC:=zs [zv 2 (.map none)] (.ref 6)
abbrev K96:List Nat:=[0,2,3,5,6,7,10,12,22]
theorem n96:Tryz.f96.ntmps=26:=by kernel_rfl
theorem r96:resT Tryz.f96.results.toList=some [2]:=by kernel_rfl
theorem x96:cmpF Tryz.prog Tryz.f96=some (expand T96 8 X96):=by kernel_rfl
def T110 (n:Nat):XC:=lkT n [
zs [zm 23 0,zm 24 3,zp 25 24,zm 26 4,.mk (some 27) none (.callv (.t 23) [.t 25,.t 26]),zx 28 (.not (.t 27))] (zw 28 .ret .skip),
.seq (zs [zm 21 4,zx 22 (.eqs .eql (.t 21) (.const (.string (ByteArray.mk (Array.mk [])))))] (zw 22 (.exit 1) .skip)) (.ref 0),
zs [zm 19 4,.mk (some 20) none (.call 113 [.t 19,.const (.string (ByteArray.mk (Array.mk [UInt8.ofNat 32,UInt8.ofNat 9])))]),zm 4 20] (.ref 1),
zs [zm 14 4,.mk (some 15) none (.call 112 [.t 14,.const (.string (ByteArray.mk (Array.mk [UInt8.ofNat 59])))]),zm 13 15,zy 16 13 0,zy 17 13 1,zy 18 13 2,zm 4 16] (.ref 2),
.seq (.blk 1 (zs [zm 10 8,zd 11 1 6 8,zL 12 [.str] 11,zm 3 10,zm 4 12] (.ref 3))) (.ops [zp 29 8,zm 8 29]),
.seq (zw 9 .skip (.exit 0)) (.ref 4),
zs [zk 9 .lss 8 7] (.ref 5),
zs [zL 5 [.str] 1,.mk (some 6) none (.call 111 [.t 5,.const (.string (ByteArray.mk (Array.mk [UInt8.ofNat 10])))]),ze 7 6,zv 8 (.int .i64 0)] (.blk 0 (.loop (.ref 6)))]
def X110:XC:=.scp (.seq (.lab) (.ref 7))
abbrev K110:List Nat:=[0,1,3,4,6,7,8,9,22,28]
theorem n110:Tryz.f110.ntmps=30:=by kernel_rfl
theorem r110:resT Tryz.f110.results.toList=some []:=by kernel_rfl
theorem x110:cmpF Tryz.prog Tryz.f110=some (expand T110 9 X110):=by kernel_rfl
def T115 (n:Nat):XC:=lkT n [
zs [zv 2 (.bool true)] .ret,
zs [zv 2 (.bool true)] .ret,
zs [zm 21 4,zm 22 0,zx 23 (.eqs .eql (.t 21) (.t 22))] (zw 23 (.ref 1) .skip),
.ops [zm 11 3,zp 12 11,zm 3 12],
.seq (.blk 1 (zs [zm 14 3,zx 15 (.build [.int .i64 0,.int .i64 0,.int .i64 0,.int .i64 0,.int .i64 0] [(0,1,.t 14)]),zc 16 139 [.t 15],.mk (some 17) none (.call 112 [.t 16,.const (.string (ByteArray.mk (Array.mk [UInt8.ofNat 32])))]),zm 13 17,zy 18 13 0,zy 19 13 1,zy 20 13 2,zm 4 18,zm 5 19,zm 6 20] (.ref 2))) (.ref 3),
.seq (zs [zm 9 3,zK 10 .leq 9 18] (zw 10 .skip (.exit 0))) (.ref 4),
zs [zv 2 (.bool false)] .ret,
.seq (zs [zv 3 (.int .i64 1)] (.blk 0 (.loop (.ref 5)))) (.ref 6),
.seq (zs [zm 7 0,zx 8 (.eqs .eql (.t 7) (.const (.string (ByteArray.mk (Array.mk [UInt8.ofNat 114,UInt8.ofNat 97,UInt8.ofNat 119])))))] (zw 8 (.ref 0) .skip)) (.ref 7)]
def X115:XC:=zs [zv 2 (.bool false)] (.ref 8)
abbrev K115:List Nat:=[0,2,3,4,8,10,23]
theorem n115:Tryz.f115.ntmps=24:=by kernel_rfl
theorem r115:resT Tryz.f115.results.toList=some [2]:=by kernel_rfl
theorem x115:cmpF Tryz.prog Tryz.f115=some (expand T115 10 X115):=by kernel_rfl
def T118 (n:Nat):XC:=lkT n [
zs [zm 3 0,zK 4 .eql 3 13,zm 5 4,zh 6 5 false 0,zG 7 5 false .eql 6 14,zO 8 5 7,zm 9 8,zh 10 9 false 0,zG 11 9 false .eql 10 15,zO 12 9 11,zm 13 12,zh 14 13 false 0,zG 15 13 false .eql 14 16,zO 16 13 15,zm 2 16] .ret]
def X118:XC:=zs [zv 2 (.bool false)] (.ref 0)
abbrev K118:List Nat:=[0,2]
theorem n118:Tryz.f118.ntmps=17:=by kernel_rfl
theorem r118:resT Tryz.f118.results.toList=some [2]:=by kernel_rfl
theorem x118:cmpF Tryz.prog Tryz.f118=some (expand T118 2 X118):=by kernel_rfl
attribute [go_sem] X40 T40
attribute [go_sem] T66n9 X66 T66
attribute [go_sem] X67 T67
attribute [go_sem] X92 T92
attribute [go_sem] X94 T94
attribute [go_sem] X95 T95
attribute [go_sem] X96 T96
attribute [go_sem] X110 T110
attribute [go_sem] X115 T115
attribute [go_sem] X118 T118
end Go.Proofs.YtgghmmjoplddbaaGreatDoor
