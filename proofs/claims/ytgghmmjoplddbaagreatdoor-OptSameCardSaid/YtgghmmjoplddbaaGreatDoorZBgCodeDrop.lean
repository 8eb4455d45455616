/- Printed by program: the small code of functions, and that it is theirs. -/
import Derived.Test.YtgghmmjoplddbaaGreatDoorSxStill
import Derived.Test.YtgghmmjoplddbaaGreatDoorProg
import Derived.KernelRfl
set_option linter.unusedSimpArgs false
set_option linter.unusedVariables false
set_option linter.unnecessarySimpa false
namespace Go.Proofs.YtgghmmjoplddbaaGreatDoor
open Go Go.Sx
set_option maxRecDepth 100000
def T37 (n:Nat):XC:=lkT n [
zs [zv 2 (.slice none 0 0),zv 3 (.int .i64 2)] .ret,
zs [zm 19 5,zm 2 19,zv 3 (.int .i64 0)] .ret,
.seq (zs [zm 14 5,ze 15 14,zL 16 [.slc] 4,ze 17 16,zk 18 .eql 15 17] (zw 18 (.ref 1) .skip)) (.ops [zm 20 5,zS 1 4 20]),
.blk 1 (zs [zL 11 [.slc] 4,zx 12 (.mkfn (.func 63) [] [.t 4]),zc 13 62 [.t 11,.t 12],zm 5 13] (.ref 2)),
zs [zm 9 0,zc 10 59 [.t 9],zx 4 (.alloc 22 [.slice none 0 0]),zS 1 4 10] (.blk 0 (.loop (.ref 3))),
.seq (zs [zm 6 0,ze 7 6,zK 8 .gtr 7 1024] (zw 8 (.ref 0) .skip)) (.ref 4)]
def X37:XC:=zs [zv 2 (.slice none 0 0),zv 3 (.int .i64 0)] (.ref 5)
abbrev K37:List Nat:=[0,2,3,4,5,8,18]
theorem n37:Tryz.f37.ntmps=21:=by kernel_rfl
theorem r37:resT Tryz.f37.results.toList=some [2,3]:=by kernel_rfl
theorem x37:cmpF Tryz.prog Tryz.f37=some (expand T37 7 X37):=by kernel_rfl
def T38 (n:Nat):XC:=lkT n [
zs [zm 16 5,zv 2 (.slice none 0 0),zm 3 16] .ret,
.ops [zL 29 [.slc] 6,zf 30 1 8,zl 31 30,zd 32 1 29 31,zn (.store 1 (.t 32) (.const (.bool true)))],
zs [zf 26 0 8,zl 27 26,zK 28 .eql 27 8] (zw 28 (.ref 1) .skip),
.seq (.blk 1 (zs [zd 24 2 20 22,zx 25 (.load [.int .i64,.int .i64] true (.t 24)),zx 8 (.alloc 33 [.int .i64 0,.int .i64 0]),zS 2 8 25] (.ref 2))) (.ops [zp 33 22,zm 22 33]),
.seq (zw 23 .skip (.exit 0)) (.ref 3),
zs [zk 23 .lss 22 21] (.ref 4),
zs [zm 34 0,zx 35 (.mkfn (.func 64) [] [.t 6]),zc 36 62 [.t 34,.t 35],zm 2 36,zv 3 (.int .i64 0)] .ret,
.seq (zs [zm 20 4,ze 21 20,zv 22 (.int .i64 0)] (.blk 0 (.loop (.ref 5)))) (.ref 6),
zs [zm 17 0,ze 18 17,zx 19 (.mkslc 4 1 1 [.bool false] (.t 18) (.t 18)),zx 6 (.alloc 65 [.slice none 0 0]),zS 1 6 19] (.ref 7),
.seq (zs [zm 14 5,zK 15 .neq 14 0] (zw 15 (.ref 0) .skip)) (.ref 8),
zs [zm 10 0,zc 11 7 [.t 10],zm 9 11,zy 12 9 0,zy 13 9 1,zm 4 12,zm 5 13] (.ref 9)]
def X38:XC:=zs [zv 2 (.slice none 0 0),zv 3 (.int .i64 0)] (.ref 10)
abbrev K38:List Nat:=[0,2,3,4,5,6,8,15,20,21,22,23,28]
theorem n38:Tryz.f38.ntmps=37:=by kernel_rfl
theorem r38:resT Tryz.f38.results.toList=some [2,3]:=by kernel_rfl
theorem x38:cmpF Tryz.prog Tryz.f38=some (expand T38 12 X38):=by kernel_rfl
def T62 (n:Nat):XC:=lkT n [
.ops [zm 33 5,zm 34 6,zp 35 34,zd 36 1 33 35,zl 37 36,zp 38 37,zd 39 1 33 35,zS 1 39 38],
zs [zm 29 1,zm 30 6,.mk (some 31) none (.callv (.t 29) [.t 30]),zx 32 (.not (.t 31))] (zw 32 (.ref 0) .skip),
zs [zm 21 5,zm 22 6,zp 23 22,zm 24 5,zm 25 6,zd 26 1 24 25,zl 27 26,zd 28 1 21 23,zS 1 28 27] (.ref 1),
.seq (.blk 1 (zs [zm 20 18,zm 6 20] (.ref 2))) (.ops [zp 40 18,zm 18 40]),
.seq (zw 19 .skip (.exit 0)) (.ref 3),
zs [zk 19 .lss 18 17] (.ref 4),
.ops [zm 67 5,zf 68 4 9,zl 69 68,zd 70 1 67 69,zl 71 70,zf 72 4 9,zS 1 72 71],
zs [zm 56 10,zm 57 56,zh 58 57 false 11,zO 59 57 58,zm 60 59,zg 61 60 true (.fld 4 (.t 9)),zg 62 60 true (.load [.int .i64] false (.t 61)),zh 63 60 true 0,zg 64 60 true (.lenS (.t 63)),zg 65 60 true (.cmp .lss .i64 (.t 62) (.t 64)),zA 66 60 65] (zw 66 (.ref 6) .skip),
.ops [zm 73 7,zi 74 9,zx 75 (.buildS 47 1 5 [.int .i64 0,.int .i64 0,.int .i64 0,.int .i64 0,.int .i64 0] [(0,.t 74)]),zx 76 (.app 47 5 40 (.t 73) (.t 75)),zm 7 76],
.seq (zs [zi 52 9,zc 53 61 [.t 52],zm 51 53,zy 54 51 0,zy 55 51 1,zm 10 54,zm 11 55] (.ref 7)) (.ref 8),
.seq (zs [zm 48 1,zm 49 8,.mk (some 50) none (.callv (.t 48) [.t 49])] (zw 50 (.exit 3) .skip)) (.ref 9),
.seq (.blk 3 (zs [zm 45 43,zd 46 5 41 43,zi 47 46,zx 9 (.alloc 47 [.int .i64 0,.int .i64 0,.int .i64 0,.int .i64 0,.int .i64 0]),zm 8 45,zS 5 9 47] (.ref 10))) (.ops [zp 77 43,zm 43 77]),
.seq (zw 44 .skip (.exit 2)) (.ref 11),
zs [zk 44 .lss 43 42] (.ref 12),
zs [zm 78 7,zm 4 78] .ret,
.seq (zs [zm 41 0,ze 42 41,zv 43 (.int .i64 0)] (.blk 2 (.loop (.ref 13)))) (.ref 14),
zs [zv 7 (.slice none 0 0)] (.ref 15),
.seq (zs [zm 16 0,ze 17 16,zv 18 (.int .i64 0)] (.blk 0 (.loop (.ref 5)))) (.ref 16),
zs [zm 12 0,ze 13 12,zp 14 13,zx 15 (.mkslc 3 1 8 [.int .i64 0] (.t 14) (.t 14)),zm 5 15] (.ref 17)]
def X62:XC:=zs [zv 4 (.slice none 0 0)] (.ref 18)
abbrev K62:List Nat:=[0,1,4,5,6,7,8,9,10,11,17,18,19,32,41,42,43,44,50,66]
theorem n62:Tryz.f62.ntmps=79:=by kernel_rfl
theorem r62:resT Tryz.f62.results.toList=some [4]:=by kernel_rfl
theorem x62:cmpF Tryz.prog Tryz.f62=some (expand T62 20 X62):=by kernel_rfl
def T63 (n:Nat):XC:=lkT n [
zs [zm 14 4,zm 15 14,zg 16 15 true (.load [.slc] false (.t 1)),zh 17 15 true 0,zg 18 15 true (.idx 5 (.t 16) (.t 17)),zg 19 15 true (.fld 4 (.t 18)),zg 20 15 true (.load [.int .i64] false (.t 19)),zh 21 15 true 0,zg 22 15 true (.arith .add .i64 (.t 21) (.i 1)),zg 23 15 true (.cmp .eql .i64 (.t 20) (.t 22)),zA 24 15 23,zm 3 24] .ret,
zs [zL 7 [.slc] 1,zm 8 0,zd 9 5 7 8,zi 10 9,zc 11 61 [.t 10],zm 6 11,zy 12 6 0,zy 13 6 1,zm 4 12,zm 5 13] (.ref 0)]
def X63:XC:=zs [zv 3 (.bool false)] (.ref 1)
abbrev K63:List Nat:=[0,1,3,4]
theorem n63:Tryz.f63.ntmps=25:=by kernel_rfl
theorem r63:resT Tryz.f63.results.toList=some [3]:=by kernel_rfl
theorem x63:cmpF Tryz.prog Tryz.f63=some (expand T63 3 X63):=by kernel_rfl
def T64 (n:Nat):XC:=lkT n [
zs [zL 4 [.slc] 1,zm 5 0,zd 6 1 4 5,zL 7 [.bool] 6,zm 3 7] .ret]
def X64:XC:=zs [zv 3 (.bool false)] (.ref 0)
abbrev K64:List Nat:=[0,1,3]
theorem n64:Tryz.f64.ntmps=8:=by kernel_rfl
theorem r64:resT Tryz.f64.results.toList=some [3]:=by kernel_rfl
theorem x64:cmpF Tryz.prog Tryz.f64=some (expand T64 2 X64):=by kernel_rfl
attribute [go_sem] X37 T37
attribute [go_sem] X38 T38
attribute [go_sem] X62 T62
attribute [go_sem] X63 T63
attribute [go_sem] X64 T64
end Go.Proofs.YtgghmmjoplddbaaGreatDoor
