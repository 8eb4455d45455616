/- Printed by program: the small code of functions, and that it is theirs. -/
import Derived.Test.YtlbiogokpadaoaaGreatDoorSxStill
import Derived.Test.YtlbiogokpadaoaaGreatDoorProg
import Derived.KernelRfl
set_option linter.unusedSimpArgs false
set_option linter.unusedVariables false
set_option linter.unnecessarySimpa false
namespace Go.Proofs.YtlbiogokpadaoaaGreatDoor
open Go Go.Sx
set_option maxRecDepth 100000
theorem n4:Tryz.f4.ntmps=18:=by kernel_rfl
theorem r4:resT Tryz.f4.results.toList=some [2]:=by kernel_rfl
def T15 (n:Nat):XC:=lkT n [
zs [zv 4 (.bool false)] .ret,
.ops [zm 63 6,zm 64 10,zd 65 5 63 64,zf 66 0 65,zn (.store 1 (.t 66) (.i 77))],
.seq (.blk 1 (zs [zm 62 60,zm 10 62] (.ref 1))) (.ops [zp 67 60,zm 60 67]),
.seq (zw 61 .skip (.exit 0)) (.ref 2),
zs [zk 61 .lss 60 59] (.ref 3),
zs [zm 72 5,zm 73 1,ze 74 73,zx 75 (.sub 5 (.t 72) none (some (.t 74))),zm 76 1,zc 77 31 [.t 75,.t 76],zm 78 77,zh 79 78 true 5,zh 80 78 true 1,zg 81 78 true (.lenS (.t 80)),zg 82 78 true (.idx 5 (.t 79) (.t 81)),zg 83 78 true (.fld 0 (.t 82)),zg 84 78 true (.load [.int .i64] false (.t 83)),zG 85 78 true .eql 84 77,zA 86 78 85,zm 87 86,zh 88 87 true 6,zg 89 87 true (.lenS (.t 88)),zh 90 87 true 8,zg 91 87 true (.lenS (.t 90)),zg 92 87 true (.arith .add .i64 (.t 91) (.i 1)),zg 93 87 true (.cmp .eql .i64 (.t 89) (.t 92)),zA 94 87 93,zm 4 94] .ret,
zs [zm 68 6,zx 69 (.build [.int .i64 0,.int .i64 0,.int .i64 0,.int .i64 0,.int .i64 0] [(0,1,.i 78)]),zx 70 (.buildS 41 1 5 [.int .i64 0,.int .i64 0,.int .i64 0,.int .i64 0,.int .i64 0] [(0,.t 69)]),zx 71 (.app 41 5 40 (.t 68) (.t 70)),zm 6 71] (.ref 5),
.seq (zs [zm 58 6,ze 59 58,zv 60 (.int .i64 0)] (.blk 0 (.loop (.ref 4)))) (.ref 6),
.seq (zs [zm 31 7,zm 32 9,zk 33 .neq 31 32,zm 34 33,zh 35 34 false 6,zh 36 34 false 8,.mk (some 37) (some (34,false)) (.call 31 [.t 35,.t 36]),zg 38 34 false (.not (.t 37)),zO 39 34 38,zm 40 39,zh 41 40 false 5,zh 42 40 false 1,zg 43 40 false (.lenS (.t 42)),zg 44 40 false (.sub 5 (.t 41) none (some (.t 43))),zh 45 40 false 1,.mk (some 46) (some (40,false)) (.call 31 [.t 44,.t 45]),zg 47 40 false (.not (.t 46)),zO 48 40 47,zm 49 48,zh 50 49 false 5,zh 51 49 false 1,zg 52 49 false (.lenS (.t 51)),zg 53 49 false (.idx 5 (.t 50) (.t 52)),zg 54 49 false (.fld 0 (.t 53)),zg 55 49 false (.load [.int .i64] false (.t 54)),zG 56 49 false .neq 55 77,zO 57 49 56] (zw 57 (.ref 0) .skip)) (.ref 7),
zs [zm 26 0,zm 27 1,zc 28 30 [.t 26,.t 27],zm 25 28,zy 29 25 0,zy 30 25 1,zm 8 29,zm 9 30] (.ref 8),
zs [zm 17 0,zm 18 5,zm 19 1,ze 20 19,zx 21 (.sub 5 (.t 18) none (some (.t 20))),zc 22 27 [.t 17,.t 21],zm 16 22,zy 23 16 0,zy 24 16 1,zm 6 23,zm 7 24] (.ref 9),
zs [zm 11 1,zc 12 29 [.t 11],zx 13 (.build [.int .i64 0,.int .i64 0,.int .i64 0,.int .i64 0,.int .i64 0] [(0,1,.i 77)]),zx 14 (.buildS 41 1 5 [.int .i64 0,.int .i64 0,.int .i64 0,.int .i64 0,.int .i64 0] [(0,.t 13)]),zx 15 (.app 41 5 40 (.t 12) (.t 14)),zm 5 15] (.ref 10)]
def X15:XC:=zs [zv 4 (.bool false)] (.ref 11)
abbrev K15:List Nat:=[0,1,4,5,6,7,8,9,10,57,59,60,61]
theorem n15:Tryz.f15.ntmps=95:=by kernel_rfl
theorem r15:resT Tryz.f15.results.toList=some [4]:=by kernel_rfl
theorem x15:cmpF Tryz.prog Tryz.f15=some (expand T15 13 X15):=by kernel_rfl
def T27 (n:Nat):XC:=lkT n [
zs [zm 9 1,zc 10 55 [.t 9],zy 11 10 0,zy 12 10 1,zm 4 11,zm 5 12] .ret,
zs [zm 15 1,zc 16 56 [.t 15],zy 17 16 0,zy 18 16 1,zm 4 17,zm 5 18] .ret,
zs [zm 21 1,zc 22 57 [.t 21],zy 23 22 0,zy 24 22 1,zm 4 23,zm 5 24] .ret,
zs [zm 27 1,zc 28 58 [.t 27],zy 29 28 0,zy 30 28 1,zm 4 29,zm 5 30] .ret,
zs [zK 26 .eql 6 3,zm 25 26] (zw 25 (.ref 3) .skip),
zs [zK 20 .eql 6 2,zm 19 20] (zw 19 (.ref 2) (.ref 4)),
zs [zK 14 .eql 6 1,zm 13 14] (zw 13 (.ref 1) (.ref 5)),
.blk 0 (zs [zK 8 .eql 6 0,zm 7 8] (zw 7 (.ref 0) (.ref 6))),
zs [zm 31 1,zc 32 26 [.t 31],zy 33 32 0,zy 34 32 1,zm 4 33,zm 5 34] .ret,
.seq (zs [zm 6 0] (.ref 7)) (.ref 8)]
def X27:XC:=zs [zv 4 (.slice none 0 0),zv 5 (.int .i64 0)] (.ref 9)
abbrev K27:List Nat:=[0,1,4,5,6,7,13,19,25]
theorem n27:Tryz.f27.ntmps=35:=by kernel_rfl
theorem r27:resT Tryz.f27.results.toList=some [4,5]:=by kernel_rfl
theorem x27:cmpF Tryz.prog Tryz.f27=some (expand T27 11 X27):=by kernel_rfl
def T30 (n:Nat):XC:=lkT n [
zs [zv 4 (.slice none 0 0),zv 5 (.int .i64 2)] .ret,
zs [zm 12 1,zc 13 61 [.t 12],zm 4 13,zv 5 (.int .i64 0)] .ret,
zs [zm 16 1,zc 17 62 [.t 16],zm 4 17,zv 5 (.int .i64 0)] .ret,
zs [zm 20 1,zc 21 63 [.t 20],zm 4 21,zv 5 (.int .i64 0)] .ret,
zs [zm 24 1,zc 25 64 [.t 24],zm 4 25,zv 5 (.int .i64 0)] .ret,
zs [zK 23 .eql 9 3,zm 22 23] (zw 22 (.ref 4) .skip),
zs [zK 19 .eql 9 2,zm 18 19] (zw 18 (.ref 3) (.ref 5)),
zs [zK 15 .eql 9 1,zm 14 15] (zw 14 (.ref 2) (.ref 6)),
.blk 0 (zs [zK 11 .eql 9 0,zm 10 11] (zw 10 (.ref 1) (.ref 7))),
zs [zm 26 1,zc 27 65 [.t 26],zm 4 27,zv 5 (.int .i64 0)] .ret,
.seq (zs [zm 9 0] (.ref 8)) (.ref 9),
.seq (zs [zm 6 1,ze 7 6,zK 8 .gtr 7 1024] (zw 8 (.ref 0) .skip)) (.ref 10)]
def X30:XC:=zs [zv 4 (.slice none 0 0),zv 5 (.int .i64 0)] (.ref 11)
abbrev K30:List Nat:=[0,1,4,5,8,9,10,14,18,22]
theorem n30:Tryz.f30.ntmps=28:=by kernel_rfl
theorem r30:resT Tryz.f30.results.toList=some [4,5]:=by kernel_rfl
theorem x30:cmpF Tryz.prog Tryz.f30=some (expand T30 13 X30):=by kernel_rfl
def T29 (n:Nat):XC:=lkT n [
zs [zm 4 3,zm 5 0,zx 6 (.app 41 5 40 (.t 4) (.t 5)),zm 2 6] .ret,
zs [zv 3 (.slice none 0 0)] (.ref 0)]
def X29:XC:=zs [zv 2 (.slice none 0 0)] (.ref 1)
abbrev K29:List Nat:=[0,2,3]
theorem n29:Tryz.f29.ntmps=7:=by kernel_rfl
theorem r29:resT Tryz.f29.results.toList=some [2]:=by kernel_rfl
theorem x29:cmpF Tryz.prog Tryz.f29=some (expand T29 3 X29):=by kernel_rfl
def T31 (n:Nat):XC:=lkT n [
zs [zv 4 (.bool false)] .ret,
zs [zv 4 (.bool false)] .ret,
.ops [zm 15 5,zp 16 15,zm 5 16],
.seq (.blk 1 (zs [zm 17 0,zm 18 5,zd 19 5 17 18,zi 20 19,zm 21 1,zm 22 5,zd 23 5 21 22,zi 24 23,zx 25 (.eqa true [.int .i64,.int .i64,.int .i64,.int .i64,.int .i64] (.t 20) (.t 24))] (zw 25 (.ref 1) .skip))) (.ref 2),
.seq (zs [zm 11 5,zm 12 0,ze 13 12,zk 14 .lss 11 13] (zw 14 .skip (.exit 0))) (.ref 3),
zs [zv 4 (.bool true)] .ret,
.seq (zs [zv 5 (.int .i64 0)] (.blk 0 (.loop (.ref 4)))) (.ref 5),
.seq (zs [zm 6 0,ze 7 6,zm 8 1,ze 9 8,zk 10 .neq 7 9] (zw 10 (.ref 0) .skip)) (.ref 6)]
def X31:XC:=zs [zv 4 (.bool false)] (.ref 7)
abbrev K31:List Nat:=[0,1,4,5,10,14,25]
theorem n31:Tryz.f31.ntmps=26:=by kernel_rfl
theorem r31:resT Tryz.f31.results.toList=some [4]:=by kernel_rfl
theorem x31:cmpF Tryz.prog Tryz.f31=some (expand T31 9 X31):=by kernel_rfl
def T82 (n:Nat):XC:=lkT n [
zs [zv 2 (.slice none 0 0)] .ret,
zs [zx 5 (.buildS 41 0 5 [.int .i64 0,.int .i64 0,.int .i64 0,.int .i64 0,.int .i64 0] []),zm 6 0,zx 7 (.app 41 5 40 (.t 5) (.t 6)),zm 2 7] .ret,
.seq (zs [zm 3 0,zx 4 (.isnil NK.s false (.t 3))] (zw 4 (.ref 0) .skip)) (.ref 1)]
def X82:XC:=zs [zv 2 (.slice none 0 0)] (.ref 2)
abbrev K82:List Nat:=[0,2,4]
theorem n82:Tryz.f82.ntmps=8:=by kernel_rfl
theorem r82:resT Tryz.f82.results.toList=some [2]:=by kernel_rfl
theorem x82:cmpF Tryz.prog Tryz.f82=some (expand T82 4 X82):=by kernel_rfl
def T56n13:XC:=.seq (.blk 1 (.seq (.ops [zm 24 22,zd 25 5 20 22,zi 26 25,zx 6 (.alloc 41 [.int .i64 0,.int .i64 0,.int .i64 0,.int .i64 0,.int .i64 0]),zm 5 24,zn (.store 5 (.tmp 6) (.tmp 26))]) (.ref 12))) (.ops [zp 81 22,zm 22 81])
def T56 (n:Nat):XC:=lkT n [
zs [zv 2 (.slice none 0 0),zv 3 (.int .i64 2)] .ret,
zs [zm 66 11,zx 67 (.not (.t 66)),zm 68 67,zh 69 68 false 14,zO 70 68 69] (zw 70 (.exit 2) .skip),
.ops [zm 71 0,zm 72 10,zd 73 5 71 72,zf 74 4 73,zl 75 74,zm 10 75],
.seq (zs [zm 57 9,zm 58 0,zm 59 10,zd 60 5 58 59,zf 61 4 60,zl 62 61,zx 63 (.lkup (.int .i64) (.agg (Array.mk [])) true (.t 57) (.t 62)),zm 56 63,zy 64 56 0,zy 65 56 1,zx 13 (.alloc 131 []),zn (.str0 (.t 13) (.t 64)),zm 14 65] (.ref 1)) (.ref 2),
zs [zm 49 0,zm 50 10,zd 51 5 49 50,zi 52 51,zc 53 84 [.t 52],zm 48 53,zy 54 48 0,zy 55 48 1,zm 11 54,zm 12 55] (.ref 3),
.blk 3 (zs [zm 45 9,zm 46 10,zx 47 (.build [] []),zn (.mupd (.int .i64) (.t 45) (.t 46) (.t 47))] (.ref 4)),
.seq (zs [zm 41 10,zm 42 0,ze 43 42,zk 44 .lss 41 43] (zw 44 .skip (.exit 2))) (.ref 5),
.ops [zm 76 4,zm 77 5,zm 78 10,zd 79 5 76 77,zf 80 4 79,zS 1 80 78],
.seq (.blk 2 (.loop (.ref 6))) (.ref 7),
zs [zf 39 4 6,zl 40 39,zm 10 40] (.ref 8),
zs [.mk (some 38) none (.k .mkmap),zm 9 38] (.ref 9),
.seq (zs [zm 32 7,zx 33 (.not (.t 32)),zm 34 33,zh 35 34 true 8,zg 36 34 true (.not (.t 35)),zA 37 34 36] (zw 37 (.exit 1) .skip)) (.ref 10),
zs [zi 28 6,zc 29 84 [.t 28],zm 27 29,zy 30 27 0,zy 31 27 1,zm 7 30,zm 8 31] (.ref 11),
T56n13,
.seq (zw 23 .skip (.exit 0)) (.ref 13),
zs [zk 23 .lss 22 21] (.ref 14),
zs [zm 82 4,zm 2 82,zv 3 (.int .i64 0)] .ret,
.seq (zs [zm 20 0,ze 21 20,zv 22 (.int .i64 0)] (.blk 0 (.loop (.ref 15)))) (.ref 16),
zs [zm 18 0,zc 19 82 [.t 18],zm 4 19] (.ref 17),
.seq (zs [zm 15 0,ze 16 15,zK 17 .gtr 16 1024] (zw 17 (.ref 0) .skip)) (.ref 18)]
def X56:XC:=zs [zv 2 (.slice none 0 0),zv 3 (.int .i64 0)] (.ref 19)
abbrev K56:List Nat:=[0,2,3,4,5,6,7,8,9,10,11,14,17,20,21,22,23,37,44,70]
theorem n56:Tryz.f56.ntmps=83:=by kernel_rfl
theorem r56:resT Tryz.f56.results.toList=some [2,3]:=by kernel_rfl
theorem x56:cmpF Tryz.prog Tryz.f56=some (expand T56 21 X56):=by kernel_rfl
def T84 (n:Nat):XC:=lkT n [
zs [zv 2 (.bool false),zv 3 (.bool false)] .ret,
zs [zf 17 0 1,zl 18 17,zK 19 .eql 18 13,zf 20 0 1,zl 21 20,zK 22 .geq 21 14,zm 23 22,zg 24 23 true (.fld 0 (.t 1)),zg 25 23 true (.load [.int .i64] false (.t 24)),zG 26 23 true .leq 25 16,zA 27 23 26,zm 2 19,zm 3 27] .ret,
.seq (zs [zi 4 1,zc 5 21 [.t 4],zx 6 (.not (.t 5)),zm 7 6,zg 8 7 false (.fld 4 (.t 1)),zg 9 7 false (.load [.int .i64] false (.t 8)),zG 10 7 false .lss 9 0,zO 11 7 10,zm 12 11,zg 13 12 false (.fld 4 (.t 1)),zg 14 12 false (.load [.int .i64] false (.t 13)),zG 15 12 false .gtr 14 1024,zO 16 12 15] (zw 16 (.ref 0) .skip)) (.ref 1)]
def X84:XC:=zs [zx 1 (.box 41 5 (.t 0)),zv 2 (.bool false),zv 3 (.bool false)] (.ref 2)
abbrev K84:List Nat:=[0,1,2,3,16]
theorem n84:Tryz.f84.ntmps=28:=by kernel_rfl
theorem r84:resT Tryz.f84.results.toList=some [2,3]:=by kernel_rfl
theorem x84:cmpF Tryz.prog Tryz.f84=some (expand T84 4 X84):=by kernel_rfl
def T62 (n:Nat):XC:=lkT n [
.ops [zm 58 11,zp 59 58,zm 11 59],
.seq (.blk 5 (.ops [zm 60 10,zm 61 60,zh 62 61 false 6,zh 63 61 false 11,zg 64 61 false (.idx 1 (.t 62) (.t 63)),zg 65 61 false (.load [.int .i64] false (.t 64)),zh 66 61 false 0,zh 67 61 false 8,zg 68 61 false (.idx 5 (.t 66) (.t 67)),zg 69 61 false (.fld 4 (.t 68)),zg 70 61 false (.load [.int .i64] false (.t 69)),zg 71 61 false (.cmp .eql .i64 (.t 65) (.t 70)),zO 72 61 71,zm 10 72])) (.ref 0),
.seq (zs [zm 54 11,zm 55 6,ze 56 55,zk 57 .lss 54 56] (zw 57 .skip (.exit 4))) (.ref 1),
.ops [zm 78 6,zm 79 0,zm 80 8,zd 81 5 79 80,zf 82 4 81,zl 83 82,zx 84 (.buildS 3 1 1 [.int .i64 0] [(0,.t 83)]),zx 85 (.app 3 1 8 (.t 78) (.t 84)),zm 6 85],
.seq (zs [zm 73 9,zK 74 .neq 73 1,zm 75 74,zh 76 75 false 10,zO 77 75 76] (zw 77 (.exit 2) .skip)) (.ref 3),
.seq (zs [zv 11 (.int .i64 0)] (.blk 4 (.loop (.ref 2)))) (.ref 4),
zs [zv 10 (.bool false)] (.ref 5),
zs [zm 49 0,zm 50 8,zd 51 5 49 50,zi 52 51,zc 53 93 [.t 52],zm 9 53] (.ref 6),
.seq (zs [zm 45 8,zm 46 0,ze 47 46,zk 48 .geq 45 47] (zw 48 (.exit 2) .skip)) (.ref 7),
.ops [zm 37 7,zp 38 37,zm 7 38],
.seq (.blk 3 (zs [zm 39 6,zm 40 6,ze 41 40,zx 42 (.arith .sub .i64 (.t 41) (.i 1)),zd 43 1 39 42,zl 44 43,zm 8 44] (.ref 8))) (.ref 9),
.seq (zs [zm 33 7,zm 34 0,ze 35 34,zk 36 .lss 33 35] (zw 36 .skip (.exit 2))) (.ref 10),
.ops [zm 86 3,zm 87 4,zm 88 6,zm 89 6,ze 90 89,zx 91 (.arith .sub .i64 (.t 90) (.i 1)),zd 92 1 88 91,zl 93 92,zd 94 5 86 87,zf 95 4 94,zS 1 95 93],
.seq (zs [zv 7 (.int .i64 0)] (.blk 2 (.loop (.ref 11)))) (.ref 12),
zs [zm 27 0,zm 28 4,zd 29 5 27 28,zf 30 4 29,zl 31 30,zx 32 (.buildS 3 1 1 [.int .i64 0] [(0,.t 31)]),zm 6 32] (.ref 13),
.seq (zs [zm 25 5,zK 26 .eql 25 0] (zw 26 (.exit 1) .skip)) (.ref 14),
.ops [zm 18 4,zp 19 18,zm 4 19],
.seq (.blk 1 (zs [zm 20 0,zm 21 4,zd 22 5 20 21,zi 23 22,zc 24 93 [.t 23],zm 5 24] (.ref 15))) (.ref 16),
.seq (zs [zm 14 4,zm 15 0,ze 16 15,zk 17 .lss 14 16] (zw 17 .skip (.exit 0))) (.ref 17),
zs [zm 96 3,zm 2 96] .ret,
.seq (zs [zv 4 (.int .i64 0)] (.blk 0 (.loop (.ref 18)))) (.ref 19),
zs [zm 12 0,zc 13 29 [.t 12],zm 3 13] (.ref 20)]
def X62:XC:=zs [zv 2 (.slice none 0 0)] (.ref 21)
abbrev K62:List Nat:=[0,2,3,4,5,6,7,8,9,10,11,17,26,36,48,57,77]
theorem n62:Tryz.f62.ntmps=97:=by kernel_rfl
theorem r62:resT Tryz.f62.results.toList=some [2]:=by kernel_rfl
theorem x62:cmpF Tryz.prog Tryz.f62=some (expand T62 23 X62):=by kernel_rfl
def T93 (n:Nat):XC:=lkT n [
zs [zv 2 (.int .i64 0)] .ret,
zs [zv 2 (.int .i64 1)] .ret,
zs [zv 2 (.int .i64 2)] .ret,
zs [zv 2 (.int .i64 0)] .ret,
.seq (zs [zf 21 0 1,zl 22 21,zK 23 .geq 22 14,zm 24 23,zg 25 24 true (.fld 0 (.t 1)),zg 26 24 true (.load [.int .i64] false (.t 25)),zG 27 24 true .leq 26 16,zA 28 24 27] (zw 28 (.ref 2) .skip)) (.ref 3),
.seq (zs [zf 18 0 1,zl 19 18,zK 20 .eql 19 13] (zw 20 (.ref 1) .skip)) (.ref 4),
.seq (zs [zm 6 3,zx 7 (.not (.t 6)),zm 8 7,zg 9 8 false (.fld 4 (.t 1)),zg 10 8 false (.load [.int .i64] false (.t 9)),zG 11 8 false .lss 10 0,zO 12 8 11,zm 13 12,zg 14 13 false (.fld 4 (.t 1)),zg 15 13 false (.load [.int .i64] false (.t 14)),zG 16 13 false .gtr 15 1024,zO 17 13 16] (zw 17 (.ref 0) .skip)) (.ref 5),
zs [zi 4 1,zc 5 90 [.t 4],zm 3 5] (.ref 6)]
def X93:XC:=zs [zx 1 (.box 41 5 (.t 0)),zv 2 (.int .i64 0)] (.ref 7)
abbrev K93:List Nat:=[0,1,2,3,17,20,28]
theorem n93:Tryz.f93.ntmps=29:=by kernel_rfl
theorem r93:resT Tryz.f93.results.toList=some [2]:=by kernel_rfl
theorem x93:cmpF Tryz.prog Tryz.f93=some (expand T93 9 X93):=by kernel_rfl
attribute [go_sem] X15 T15
attribute [go_sem] X27 T27
attribute [go_sem] X30 T30
attribute [go_sem] X29 T29
attribute [go_sem] X31 T31
attribute [go_sem] X82 T82
attribute [go_sem] T56n13 X56 T56
attribute [go_sem] X84 T84
attribute [go_sem] X62 T62
attribute [go_sem] X93 T93
end Go.Proofs.YtlbiogokpadaoaaGreatDoor
