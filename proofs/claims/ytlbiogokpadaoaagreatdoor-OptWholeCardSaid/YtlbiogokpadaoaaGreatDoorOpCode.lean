/- Printed by program: the small code of functions, and that it is theirs. -/
import Derived.Test.YtlbiogokpadaoaaGreatDoorSxStill
import Derived.Test.YtlbiogokpadaoaaGreatDoorProg
import Derived.KernelRfl
set_option linter.unusedSimpArgs false
set_option linter.unusedVariables false
set_option linter.unnecessarySimpa false
namespace Go.Proofs.YtlbiogokpadaoaaGreatDoor
open Go Go.Sx
set_option maxRecDepth 100000
def T6 (n:Nat):XC:=lkT n [
zs [zv 2 (.bool true)] .ret,
zs [zm 16 0,zc 17 15 [.i 4,.t 16],zm 2 17] .ret,
.seq (zs [zm 3 0,ze 4 3,zK 5 .gtr 4 100,zm 6 5,zh 7 6 true 0,zg 8 6 true (.lenS (.t 7)),zG 9 6 true .leq 8 1024,zA 10 6 9,zm 11 10,zh 12 11 false 0,zg 13 11 false (.lenS (.t 12)),zG 14 11 false .gtr 13 1100,zO 15 11 14] (zw 15 (.ref 0) .skip)) (.ref 1)]
def X6:XC:=zs [zv 2 (.bool false)] (.ref 2)
abbrev K6:List Nat:=[0,2,15]
theorem n6:Tryz.f6.ntmps=18:=by kernel_rfl
theorem r6:resT Tryz.f6.results.toList=some [2]:=by kernel_rfl
theorem x6:cmpF Tryz.prog Tryz.f6=some (expand T6 4 X6):=by kernel_rfl
def T26 (n:Nat):XC:=lkT n [
zs [zm 4 0,zx 5 (.buildS 122 4 1 [.nilFunc] [(0,.func 55),(1,.func 56),(2,.func 57),(3,.func 58)]),zc 6 54 [.t 4,.t 5],zy 7 6 0,zy 8 6 1,zm 2 7,zm 3 8] .ret]
def X26:XC:=zs [zv 2 (.slice none 0 0),zv 3 (.int .i64 0)] (.ref 0)
abbrev K26:List Nat:=[0,2,3]
theorem n26:Tryz.f26.ntmps=9:=by kernel_rfl
theorem r26:resT Tryz.f26.results.toList=some [2,3]:=by kernel_rfl
theorem x26:cmpF Tryz.prog Tryz.f26=some (expand T26 2 X26):=by kernel_rfl
def T54 (n:Nat):XC:=lkT n [
zs [zm 26 10,zv 4 (.slice none 0 0),zm 5 26] .ret,
.seq (zs [zm 24 10,zK 25 .neq 24 0] (zw 25 (.ref 0) .skip)) (.ops [zm 27 9,zm 0 27]),
zs [zm 19 8,zm 20 0,.mk (some 21) none (.callv (.t 19) [.t 20]),zm 18 21,zy 22 18 0,zy 23 18 1,zm 9 22,zm 10 23] (.ref 1),
.seq (.blk 3 (zs [zd 16 1 12 14,zL 17 [.fn] 16,zm 8 17] (.ref 2))) (.ops [zp 28 14,zm 14 28]),
.seq (zw 15 .skip (.exit 2)) (.ref 3),
zs [zk 15 .lss 14 13] (.ref 4),
zs [zm 33 0,zc 34 82 [.t 33],zm 4 34,zv 5 (.int .i64 0)] .ret,
.seq (zs [zm 29 6,zm 30 0,zc 31 81 [.t 29,.t 30],zx 32 (.not (.t 31))] (zw 32 (.exit 1) .skip)) (.ref 6),
.seq (zs [zm 12 1,ze 13 12,zv 14 (.int .i64 0)] (.blk 2 (.loop (.ref 5)))) (.ref 7),
.blk 1 (zs [zm 11 0,zm 6 11] (.ref 8)),
.scp (.seq (.lab) (.blk 0 (.loop (.ref 9))))]
def X54:XC:=zs [zv 4 (.slice none 0 0),zv 5 (.int .i64 0)] (.ref 10)
abbrev K54:List Nat:=[0,1,4,5,6,8,9,10,12,13,14,15,25,32]
theorem n54:Tryz.f54.ntmps=35:=by kernel_rfl
theorem r54:resT Tryz.f54.results.toList=some [4,5]:=by kernel_rfl
theorem x54:cmpF Tryz.prog Tryz.f54=some (expand T54 12 X54):=by kernel_rfl
def T65 (n:Nat):XC:=lkT n [
zs [zm 29 6] (zw 29 (.exit 0) .skip),
zs [zm 26 5,zm 27 3,zc 28 31 [.t 26,.t 27],zm 6 28] (.ref 0),
zs [zm 24 3,zc 25 64 [.t 24],zm 3 25] (.ref 1),
zs [zm 22 3,zc 23 63 [.t 22],zm 3 23] (.ref 2),
zs [zm 20 3,zc 21 62 [.t 20],zm 3 21] (.ref 3),
zs [zm 18 3,zc 19 61 [.t 18],zm 3 19] (.ref 4),
.ops [zm 15 4,zp 16 15,zm 4 16],
.seq (.blk 1 (zs [zm 17 3,zm 5 17] (.ref 5))) (.ref 6),
.seq (zs [zm 9 4,zm 10 0,ze 11 10,zx 12 (.arith .mul .i64 (.i 3) (.t 11)),zx 13 (.arith .add .i64 (.t 12) (.i 3)),zk 14 .leq 9 13] (zw 14 .skip (.exit 0))) (.ref 7),
zs [zm 30 3,zm 2 30] .ret,
.seq (zs [zv 4 (.int .i64 0)] (.blk 0 (.loop (.ref 8)))) (.ref 9),
zs [zm 7 0,zc 8 29 [.t 7],zm 3 8] (.ref 10)]
def X65:XC:=zs [zv 2 (.slice none 0 0)] (.ref 11)
abbrev K65:List Nat:=[0,2,3,4,5,6,14,29]
theorem n65:Tryz.f65.ntmps=31:=by kernel_rfl
theorem r65:resT Tryz.f65.results.toList=some [2]:=by kernel_rfl
theorem x65:cmpF Tryz.prog Tryz.f65=some (expand T65 13 X65):=by kernel_rfl
def T81 (n:Nat):XC:=lkT n [
zs [zv 4 (.bool false)] .ret,
zs [zv 4 (.bool false)] .ret,
zs [zm 16 0,zm 17 5,zd 18 5 16 17,zi 19 18,zm 20 1,zm 21 5,zd 22 5 20 21,zi 23 22,zx 24 (.eqa true [.int .i64,.int .i64,.int .i64,.int .i64,.int .i64] (.t 19) (.t 23))] (zw 24 (.ref 1) .skip),
.seq (.blk 1 (zs [zm 15 13,zm 5 15] (.ref 2))) (.ops [zp 25 13,zm 13 25]),
.seq (zw 14 .skip (.exit 0)) (.ref 3),
zs [zk 14 .lss 13 12] (.ref 4),
zs [zv 4 (.bool true)] .ret,
.seq (zs [zm 11 0,ze 12 11,zv 13 (.int .i64 0)] (.blk 0 (.loop (.ref 5)))) (.ref 6),
.seq (zs [zm 6 0,ze 7 6,zm 8 1,ze 9 8,zk 10 .neq 7 9] (zw 10 (.ref 0) .skip)) (.ref 7)]
def X81:XC:=zs [zv 4 (.bool false)] (.ref 8)
abbrev K81:List Nat:=[0,1,4,5,10,12,13,14,24]
theorem n81:Tryz.f81.ntmps=26:=by kernel_rfl
theorem r81:resT Tryz.f81.results.toList=some [4]:=by kernel_rfl
theorem x81:cmpF Tryz.prog Tryz.f81=some (expand T81 10 X81):=by kernel_rfl
attribute [go_sem] X6 T6
attribute [go_sem] X26 T26
attribute [go_sem] X54 T54
attribute [go_sem] X65 T65
attribute [go_sem] X81 T81
end Go.Proofs.YtlbiogokpadaoaaGreatDoor
