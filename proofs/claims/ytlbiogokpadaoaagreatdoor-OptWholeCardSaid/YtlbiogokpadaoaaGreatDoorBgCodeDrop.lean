/- Printed by program: the small code of functions, and that it is theirs. -/
import Derived.Test.YtlbiogokpadaoaaGreatDoorSxStill
import Derived.Test.YtlbiogokpadaoaaGreatDoorProg
import Derived.KernelRfl
set_option linter.unusedSimpArgs false
set_option linter.unusedVariables false
set_option linter.unnecessarySimpa false
namespace Go.Proofs.YtlbiogokpadaoaaGreatDoor
open Go Go.Sx
set_option maxRecDepth 100000
theorem n5:Tryz.f5.ntmps=22:=by kernel_rfl
theorem r5:resT Tryz.f5.results.toList=some [2]:=by kernel_rfl
def T57 (n:Nat):XC:=lkT n [
zs [zv 2 (.slice none 0 0),zv 3 (.int .i64 2)] .ret,
zs [zm 19 5,zm 2 19,zv 3 (.int .i64 0)] .ret,
.seq (zs [zm 14 5,ze 15 14,zL 16 [.slc] 4,ze 17 16,zk 18 .eql 15 17] (zw 18 (.ref 1) .skip)) (.ops [zm 20 5,zS 1 4 20]),
.blk 1 (zs [zL 11 [.slc] 4,zx 12 (.mkfn (.func 86) [] [.t 4]),zc 13 85 [.t 11,.t 12],zm 5 13] (.ref 2)),
zs [zm 9 0,zc 10 82 [.t 9],zx 4 (.alloc 22 [.slice none 0 0]),zS 1 4 10] (.blk 0 (.loop (.ref 3))),
.seq (zs [zm 6 0,ze 7 6,zK 8 .gtr 7 1024] (zw 8 (.ref 0) .skip)) (.ref 4)]
def X57:XC:=zs [zv 2 (.slice none 0 0),zv 3 (.int .i64 0)] (.ref 5)
abbrev K57:List Nat:=[0,2,3,4,5,8,18]
theorem n57:Tryz.f57.ntmps=21:=by kernel_rfl
theorem r57:resT Tryz.f57.results.toList=some [2,3]:=by kernel_rfl
theorem x57:cmpF Tryz.prog Tryz.f57=some (expand T57 7 X57):=by kernel_rfl
def T58 (n:Nat):XC:=lkT n [
zs [zm 16 5,zv 2 (.slice none 0 0),zm 3 16] .ret,
.ops [zL 29 [.slc] 6,zf 30 1 8,zl 31 30,zd 32 1 29 31,zn (.store 1 (.t 32) (.const (.bool true)))],
zs [zf 26 0 8,zl 27 26,zK 28 .eql 27 8] (zw 28 (.ref 1) .skip),
.seq (.blk 1 (zs [zd 24 2 20 22,zx 25 (.load [.int .i64,.int .i64] true (.t 24)),zx 8 (.alloc 46 [.int .i64 0,.int .i64 0]),zS 2 8 25] (.ref 2))) (.ops [zp 33 22,zm 22 33]),
.seq (zw 23 .skip (.exit 0)) (.ref 3),
zs [zk 23 .lss 22 21] (.ref 4),
zs [zm 34 0,zx 35 (.mkfn (.func 87) [] [.t 6]),zc 36 85 [.t 34,.t 35],zm 2 36,zv 3 (.int .i64 0)] .ret,
.seq (zs [zm 20 4,ze 21 20,zv 22 (.int .i64 0)] (.blk 0 (.loop (.ref 5)))) (.ref 6),
zs [zm 17 0,ze 18 17,zx 19 (.mkslc 4 1 1 [.bool false] (.t 18) (.t 18)),zx 6 (.alloc 30 [.slice none 0 0]),zS 1 6 19] (.ref 7),
.seq (zs [zm 14 5,zK 15 .neq 14 0] (zw 15 (.ref 0) .skip)) (.ref 8),
zs [zm 10 0,zc 11 22 [.t 10],zm 9 11,zy 12 9 0,zy 13 9 1,zm 4 12,zm 5 13] (.ref 9)]
def X58:XC:=zs [zv 2 (.slice none 0 0),zv 3 (.int .i64 0)] (.ref 10)
abbrev K58:List Nat:=[0,2,3,4,5,6,8,15,20,21,22,23,28]
theorem n58:Tryz.f58.ntmps=37:=by kernel_rfl
theorem r58:resT Tryz.f58.results.toList=some [2,3]:=by kernel_rfl
theorem x58:cmpF Tryz.prog Tryz.f58=some (expand T58 12 X58):=by kernel_rfl
def T85 (n:Nat):XC:=lkT n [
.ops [zm 33 5,zm 34 6,zp 35 34,zd 36 1 33 35,zl 37 36,zp 38 37,zd 39 1 33 35,zS 1 39 38],
zs [zm 29 1,zm 30 6,.mk (some 31) none (.callv (.t 29) [.t 30]),zx 32 (.not (.t 31))] (zw 32 (.ref 0) .skip),
zs [zm 21 5,zm 22 6,zp 23 22,zm 24 5,zm 25 6,zd 26 1 24 25,zl 27 26,zd 28 1 21 23,zS 1 28 27] (.ref 1),
.seq (.blk 1 (zs [zm 20 18,zm 6 20] (.ref 2))) (.ops [zp 40 18,zm 18 40]),
.seq (zw 19 .skip (.exit 0)) (.ref 3),
zs [zk 19 .lss 18 17] (.ref 4),
.ops [zm 67 5,zf 68 4 9,zl 69 68,zd 70 1 67 69,zl 71 70,zf 72 4 9,zS 1 72 71],
zs [zm 56 10,zm 57 56,zh 58 57 false 11,zO 59 57 58,zm 60 59,zg 61 60 true (.fld 4 (.t 9)),zg 62 60 true (.load [.int .i64] false (.t 61)),zh 63 60 true 0,zg 64 60 true (.lenS (.t 63)),zg 65 60 true (.cmp .lss .i64 (.t 62) (.t 64)),zA 66 60 65] (zw 66 (.ref 6) .skip),
.ops [zm 73 7,zi 74 9,zx 75 (.buildS 41 1 5 [.int .i64 0,.int .i64 0,.int .i64 0,.int .i64 0,.int .i64 0] [(0,.t 74)]),zx 76 (.app 41 5 40 (.t 73) (.t 75)),zm 7 76],
.seq (zs [zi 52 9,zc 53 84 [.t 52],zm 51 53,zy 54 51 0,zy 55 51 1,zm 10 54,zm 11 55] (.ref 7)) (.ref 8),
.seq (zs [zm 48 1,zm 49 8,.mk (some 50) none (.callv (.t 48) [.t 49])] (zw 50 (.exit 3) .skip)) (.ref 9),
.seq (.blk 3 (zs [zm 45 43,zd 46 5 41 43,zi 47 46,zx 9 (.alloc 41 [.int .i64 0,.int .i64 0,.int .i64 0,.int .i64 0,.int .i64 0]),zm 8 45,zS 5 9 47] (.ref 10))) (.ops [zp 77 43,zm 43 77]),
.seq (zw 44 .skip (.exit 2)) (.ref 11),
zs [zk 44 .lss 43 42] (.ref 12),
zs [zm 78 7,zm 4 78] .ret,
.seq (zs [zm 41 0,ze 42 41,zv 43 (.int .i64 0)] (.blk 2 (.loop (.ref 13)))) (.ref 14),
zs [zv 7 (.slice none 0 0)] (.ref 15),
.seq (zs [zm 16 0,ze 17 16,zv 18 (.int .i64 0)] (.blk 0 (.loop (.ref 5)))) (.ref 16),
zs [zm 12 0,ze 13 12,zp 14 13,zx 15 (.mkslc 3 1 8 [.int .i64 0] (.t 14) (.t 14)),zm 5 15] (.ref 17)]
def X85:XC:=zs [zv 4 (.slice none 0 0)] (.ref 18)
abbrev K85:List Nat:=[0,1,4,5,6,7,8,9,10,11,17,18,19,32,41,42,43,44,50,66]
theorem n85:Tryz.f85.ntmps=79:=by kernel_rfl
theorem r85:resT Tryz.f85.results.toList=some [4]:=by kernel_rfl
theorem x85:cmpF Tryz.prog Tryz.f85=some (expand T85 20 X85):=by kernel_rfl
def T86 (n:Nat):XC:=lkT n [
zs [zm 14 4,zm 15 14,zg 16 15 true (.load [.slc] false (.t 1)),zh 17 15 true 0,zg 18 15 true (.idx 5 (.t 16) (.t 17)),zg 19 15 true (.fld 4 (.t 18)),zg 20 15 true (.load [.int .i64] false (.t 19)),zh 21 15 true 0,zg 22 15 true (.arith .add .i64 (.t 21) (.i 1)),zg 23 15 true (.cmp .eql .i64 (.t 20) (.t 22)),zA 24 15 23,zm 3 24] .ret,
zs [zL 7 [.slc] 1,zm 8 0,zd 9 5 7 8,zi 10 9,zc 11 84 [.t 10],zm 6 11,zy 12 6 0,zy 13 6 1,zm 4 12,zm 5 13] (.ref 0)]
def X86:XC:=zs [zv 3 (.bool false)] (.ref 1)
abbrev K86:List Nat:=[0,1,3,4]
theorem n86:Tryz.f86.ntmps=25:=by kernel_rfl
theorem r86:resT Tryz.f86.results.toList=some [3]:=by kernel_rfl
theorem x86:cmpF Tryz.prog Tryz.f86=some (expand T86 3 X86):=by kernel_rfl
def T87 (n:Nat):XC:=lkT n [
zs [zL 4 [.slc] 1,zm 5 0,zd 6 1 4 5,zL 7 [.bool] 6,zm 3 7] .ret]
def X87:XC:=zs [zv 3 (.bool false)] (.ref 0)
abbrev K87:List Nat:=[0,1,3]
theorem n87:Tryz.f87.ntmps=8:=by kernel_rfl
theorem r87:resT Tryz.f87.results.toList=some [3]:=by kernel_rfl
theorem x87:cmpF Tryz.prog Tryz.f87=some (expand T87 2 X87):=by kernel_rfl
def T94 (n:Nat):XC:=lkT n [
.ops [zm 47 9,zp 48 47,zm 9 48],
.ops [zm 40 10,zp 41 40,zm 10 41],
.seq (.blk 3 (zs [zm 42 1,zm 43 10,zd 44 1 42 43,zL 45 [.bool] 44,zx 46 (.not (.t 45))] (zw 46 (.ref 0) .skip))) (.ref 1),
.seq (zs [zm 36 10,zf 37 4 7,zl 38 37,zk 39 .lss 36 38] (zw 39 .skip (.exit 2))) (.ref 2),
.ops [zm 49 9,zf 50 4 7,zS 1 50 49],
.seq (zs [zv 10 (.int .i64 0)] (.blk 2 (.loop (.ref 3)))) (.ref 4),
zs [zv 9 (.int .i64 0)] (.ref 5),
.ops [zm 51 5,zi 52 7,zx 53 (.buildS 41 1 5 [.int .i64 0,.int .i64 0,.int .i64 0,.int .i64 0,.int .i64 0] [(0,.t 52)]),zx 54 (.app 41 5 40 (.t 51) (.t 53)),zm 5 54],
.seq (zs [zm 27 8,zK 28 .neq 27 0,zm 29 28,zg 30 29 true (.fld 4 (.t 7)),zg 31 29 true (.load [.int .i64] false (.t 30)),zh 32 29 true 0,zg 33 29 true (.lenS (.t 32)),zg 34 29 true (.cmp .lss .i64 (.t 31) (.t 33)),zA 35 29 34] (zw 35 (.ref 6) .skip)) (.ref 7),
zs [zi 25 7,zc 26 93 [.t 25],zm 8 26] (.ref 8),
zs [zm 21 0,zm 22 6,zd 23 5 21 22,zi 24 23,zx 7 (.alloc 41 [.int .i64 0,.int .i64 0,.int .i64 0,.int .i64 0,.int .i64 0]),zS 5 7 24] (.ref 9),
.ops [zm 15 6,zp 16 15,zm 6 16],
.seq (.blk 1 (.seq (zs [zm 17 1,zm 18 6,zd 19 1 17 18,zL 20 [.bool] 19] (zw 20 (.exit 1) .skip)) (.ref 10))) (.ref 11),
.seq (zs [zm 11 6,zm 12 0,ze 13 12,zk 14 .lss 11 13] (zw 14 .skip (.exit 0))) (.ref 12),
zs [zm 55 5,zm 4 55] .ret,
.seq (zs [zv 6 (.int .i64 0)] (.blk 0 (.loop (.ref 13)))) (.ref 14),
zs [zv 5 (.slice none 0 0)] (.ref 15)]
def X94:XC:=zs [zv 4 (.slice none 0 0)] (.ref 16)
abbrev K94:List Nat:=[0,1,4,5,6,7,8,9,10,14,20,35,39,46]
theorem n94:Tryz.f94.ntmps=56:=by kernel_rfl
theorem r94:resT Tryz.f94.results.toList=some [4]:=by kernel_rfl
theorem x94:cmpF Tryz.prog Tryz.f94=some (expand T94 18 X94):=by kernel_rfl
def T63 (n:Nat):XC:=lkT n [
.ops [zm 30 5,zm 31 6,zm 32 7,zK 33 .eql 32 1,zm 34 33,zh 35 34 true 3,zh 36 34 true 6,zg 37 34 true (.idx 5 (.t 35) (.t 36)),zg 38 34 true (.fld 4 (.t 37)),zg 39 34 true (.load [.int .i64] false (.t 38)),zh 40 34 true 6,zg 41 34 true (.arith .add .i64 (.t 40) (.i 1)),zg 42 34 true (.cmp .eql .i64 (.t 39) (.t 41)),zA 43 34 42,zd 44 1 30 31,zS 1 44 43],
.ops [zm 23 6,zp 24 23,zm 6 24],
.seq (.blk 3 (zs [zm 25 3,zm 26 6,zd 27 5 25 26,zi 28 27,zc 29 93 [.t 28],zm 7 29] (.ref 0))) (.ref 1),
.seq (zs [zm 19 6,zm 20 3,ze 21 20,zk 22 .lss 19 21] (zw 22 .skip (.exit 2))) (.ref 2),
.ops [zm 45 3,zm 46 5,zc 47 94 [.t 45,.t 46],zm 3 47],
.seq (zs [zv 6 (.int .i64 0)] (.blk 2 (.loop (.ref 3)))) (.ref 4),
.ops [zm 14 4,zp 15 14,zm 4 15],
.seq (.blk 1 (zs [zm 16 3,ze 17 16,zx 18 (.mkslc 4 1 1 [.bool false] (.t 17) (.t 17)),zm 5 18] (.ref 5))) (.ref 6),
.seq (zs [zm 10 4,zm 11 0,ze 12 11,zk 13 .leq 10 12] (zw 13 .skip (.exit 0))) (.ref 7),
zs [zm 48 3,zm 2 48] .ret,
.seq (zs [zv 4 (.int .i64 0)] (.blk 0 (.loop (.ref 8)))) (.ref 9),
zs [zm 8 0,zc 9 29 [.t 8],zm 3 9] (.ref 10)]
def X63:XC:=zs [zv 2 (.slice none 0 0)] (.ref 11)
abbrev K63:List Nat:=[0,2,3,4,5,6,7,13,22]
theorem n63:Tryz.f63.ntmps=49:=by kernel_rfl
theorem r63:resT Tryz.f63.results.toList=some [2]:=by kernel_rfl
theorem x63:cmpF Tryz.prog Tryz.f63=some (expand T63 13 X63):=by kernel_rfl
def T64 (n:Nat):XC:=lkT n [
.ops [zm 27 5,zm 28 3,zm 29 6,zd 30 2 28 29,zf 31 1 30,zl 32 31,zd 33 1 27 32,zn (.store 1 (.t 33) (.const (.bool true)))],
.ops [zm 19 6,zp 20 19,zm 6 20],
.seq (.blk 1 (zs [zm 21 3,zm 22 6,zd 23 2 21 22,zf 24 0 23,zl 25 24,zK 26 .eql 25 8] (zw 26 (.ref 0) .skip))) (.ref 1),
.seq (zs [zm 15 6,zm 16 3,ze 17 16,zk 18 .lss 15 17] (zw 18 .skip (.exit 0))) (.ref 2),
zs [zm 34 0,zm 35 5,zc 36 94 [.t 34,.t 35],zm 2 36] .ret,
.seq (zs [zv 6 (.int .i64 0)] (.blk 0 (.loop (.ref 3)))) (.ref 4),
zs [zm 12 0,ze 13 12,zx 14 (.mkslc 4 1 1 [.bool false] (.t 13) (.t 13)),zm 5 14] (.ref 5),
zs [zm 8 0,zc 9 95 [.t 8],zm 7 9,zy 10 7 0,zy 11 7 1,zm 3 10,zm 4 11] (.ref 6)]
def X64:XC:=zs [zv 2 (.slice none 0 0)] (.ref 7)
abbrev K64:List Nat:=[0,2,3,5,6,18,26]
theorem n64:Tryz.f64.ntmps=37:=by kernel_rfl
theorem r64:resT Tryz.f64.results.toList=some [2]:=by kernel_rfl
theorem x64:cmpF Tryz.prog Tryz.f64=some (expand T64 9 X64):=by kernel_rfl
attribute [go_sem] X57 T57
attribute [go_sem] X58 T58
attribute [go_sem] X85 T85
attribute [go_sem] X86 T86
attribute [go_sem] X87 T87
attribute [go_sem] X94 T94
attribute [go_sem] X63 T63
attribute [go_sem] X64 T64
end Go.Proofs.YtlbiogokpadaoaaGreatDoor
