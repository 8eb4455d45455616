/- Printed by program: the small code of functions, and that it is theirs. -/
import Derived.Test.YtgghmmjoplddbaaGreatDoorSxStill
import Derived.Test.YtgghmmjoplddbaaGreatDoorProg
import Derived.KernelRfl
set_option linter.unusedSimpArgs false
set_option linter.unusedVariables false
set_option linter.unnecessarySimpa false
namespace Go.Proofs.YtgghmmjoplddbaaGreatDoor
open Go Go.Sx
set_option maxRecDepth 100000
def T39 (n:Nat):XC:=lkT n [
zs [zm 4 0,zx 5 (.buildS 168 4 1 [.nilFunc] [(0,.func 35),(1,.func 36),(2,.func 37),(3,.func 38)]),zc 6 65 [.t 4,.t 5],zy 7 6 0,zy 8 6 1,zm 2 7,zm 3 8] .ret]
def X39:XC:=zs [zv 2 (.slice none 0 0),zv 3 (.int .i64 0)] (.ref 0)
abbrev K39:List Nat:=[0,2,3]
theorem n39:Tryz.f39.ntmps=9:=by kernel_rfl
theorem r39:resT Tryz.f39.results.toList=some [2,3]:=by kernel_rfl
theorem x39:cmpF Tryz.prog Tryz.f39=some (expand T39 2 X39):=by kernel_rfl
def T65 (n:Nat):XC:=lkT n [
zs [zm 26 10,zv 4 (.slice none 0 0),zm 5 26] .ret,
.seq (zs [zm 24 10,zK 25 .neq 24 0] (zw 25 (.ref 0) .skip)) (.ops [zm 27 9,zm 0 27]),
zs [zm 19 8,zm 20 0,.mk (some 21) none (.callv (.t 19) [.t 20]),zm 18 21,zy 22 18 0,zy 23 18 1,zm 9 22,zm 10 23] (.ref 1),
.seq (.blk 3 (zs [zd 16 1 12 14,zL 17 [.fn] 16,zm 8 17] (.ref 2))) (.ops [zp 28 14,zm 14 28]),
.seq (zw 15 .skip (.exit 2)) (.ref 3),
zs [zk 15 .lss 14 13] (.ref 4),
zs [zm 33 0,zc 34 59 [.t 33],zm 4 34,zv 5 (.int .i64 0)] .ret,
.seq (zs [zm 29 6,zm 30 0,zc 31 91 [.t 29,.t 30],zx 32 (.not (.t 31))] (zw 32 (.exit 1) .skip)) (.ref 6),
.seq (zs [zm 12 1,ze 13 12,zv 14 (.int .i64 0)] (.blk 2 (.loop (.ref 5)))) (.ref 7),
.blk 1 (zs [zm 11 0,zm 6 11] (.ref 8)),
.scp (.seq (.lab) (.blk 0 (.loop (.ref 9))))]
def X65:XC:=zs [zv 4 (.slice none 0 0),zv 5 (.int .i64 0)] (.ref 10)
abbrev K65:List Nat:=[0,1,4,5,6,8,9,10,12,13,14,15,25,32]
theorem n65:Tryz.f65.ntmps=35:=by kernel_rfl
theorem r65:resT Tryz.f65.results.toList=some [4,5]:=by kernel_rfl
theorem x65:cmpF Tryz.prog Tryz.f65=some (expand T65 12 X65):=by kernel_rfl
def T91 (n:Nat):XC:=lkT n [
zs [zv 4 (.bool false)] .ret,
zs [zv 4 (.bool false)] .ret,
zs [zm 16 0,zm 17 5,zd 18 5 16 17,zi 19 18,zm 20 1,zm 21 5,zd 22 5 20 21,zi 23 22,zx 24 (.eqa true [.int .i64,.int .i64,.int .i64,.int .i64,.int .i64] (.t 19) (.t 23))] (zw 24 (.ref 1) .skip),
.seq (.blk 1 (zs [zm 15 13,zm 5 15] (.ref 2))) (.ops [zp 25 13,zm 13 25]),
.seq (zw 14 .skip (.exit 0)) (.ref 3),
zs [zk 14 .lss 13 12] (.ref 4),
zs [zv 4 (.bool true)] .ret,
.seq (zs [zm 11 0,ze 12 11,zv 13 (.int .i64 0)] (.blk 0 (.loop (.ref 5)))) (.ref 6),
.seq (zs [zm 6 0,ze 7 6,zm 8 1,ze 9 8,zk 10 .neq 7 9] (zw 10 (.ref 0) .skip)) (.ref 7)]
def X91:XC:=zs [zv 4 (.bool false)] (.ref 8)
abbrev K91:List Nat:=[0,1,4,5,10,12,13,14,24]
theorem n91:Tryz.f91.ntmps=26:=by kernel_rfl
theorem r91:resT Tryz.f91.results.toList=some [4]:=by kernel_rfl
theorem x91:cmpF Tryz.prog Tryz.f91=some (expand T91 10 X91):=by kernel_rfl
attribute [go_sem] X39 T39
attribute [go_sem] X65 T65
attribute [go_sem] X91 T91
def T13 (n:Nat):XC:=lkT n [
zs [.mk (some 1) none (.call 32 [.const (.string (ByteArray.mk (Array.mk [UInt8.ofNat 115,UInt8.ofNat 101,UInt8.ofNat 116,UInt8.ofNat 32,UInt8.ofNat 49,UInt8.ofNat 32,UInt8.ofNat 50,UInt8.ofNat 10,UInt8.ofNat 115,UInt8.ofNat 101,UInt8.ofNat 116,UInt8.ofNat 32,UInt8.ofNat 50,UInt8.ofNat 32,UInt8.ofNat 51,UInt8.ofNat 10,UInt8.ofNat 97,UInt8.ofNat 100,UInt8.ofNat 100,UInt8.ofNat 32,UInt8.ofNat 49,UInt8.ofNat 32,UInt8.ofNat 49,UInt8.ofNat 32,UInt8.ofNat 50,UInt8.ofNat 10,UInt8.ofNat 104,UInt8.ofNat 97,UInt8.ofNat 108,UInt8.ofNat 116]))),.const (.string (ByteArray.mk (Array.mk [UInt8.ofNat 115,UInt8.ofNat 101,UInt8.ofNat 116,UInt8.ofNat 32,UInt8.ofNat 49,UInt8.ofNat 32,UInt8.ofNat 50,UInt8.ofNat 10,UInt8.ofNat 115,UInt8.ofNat 101,UInt8.ofNat 116,UInt8.ofNat 32,UInt8.ofNat 50,UInt8.ofNat 32,UInt8.ofNat 51,UInt8.ofNat 10,UInt8.ofNat 115,UInt8.ofNat 101,UInt8.ofNat 116,UInt8.ofNat 32,UInt8.ofNat 49,UInt8.ofNat 32,UInt8.ofNat 53,UInt8.ofNat 10,UInt8.ofNat 104,UInt8.ofNat 97,UInt8.ofNat 108,UInt8.ofNat 116])))]),zm 2 1,.mk (some 3) (some (2,true)) (.call 32 [.const (.string (ByteArray.mk (Array.mk [UInt8.ofNat 106,UInt8.ofNat 117,UInt8.ofNat 109,UInt8.ofNat 112,UInt8.ofNat 32,UInt8.ofNat 50,UInt8.ofNat 10,UInt8.ofNat 104,UInt8.ofNat 97,UInt8.ofNat 108,UInt8.ofNat 116,UInt8.ofNat 10,UInt8.ofNat 106,UInt8.ofNat 117,UInt8.ofNat 109,UInt8.ofNat 112,UInt8.ofNat 32,UInt8.ofNat 51,UInt8.ofNat 10,UInt8.ofNat 115,UInt8.ofNat 101,UInt8.ofNat 116,UInt8.ofNat 32,UInt8.ofNat 49,UInt8.ofNat 32,UInt8.ofNat 49]))),.const (.string (ByteArray.mk (Array.mk [UInt8.ofNat 115,UInt8.ofNat 101,UInt8.ofNat 116,UInt8.ofNat 32,UInt8.ofNat 49,UInt8.ofNat 32,UInt8.ofNat 49])))]),zA 4 2 3,zm 0 4] .ret]
def X13:XC:=zs [zv 0 (.bool false)] (.ref 0)
abbrev K13:List Nat:=[0]
theorem n13:Tryz.f13.ntmps=5:=by kernel_rfl
theorem r13:resT Tryz.f13.results.toList=some [0]:=by kernel_rfl
theorem x13:cmpF Tryz.prog Tryz.f13=some (expand T13 2 X13):=by kernel_rfl
def T32 (n:Nat):XC:=lkT n [
zs [zv 4 (.bool false)] .ret,
zs [zv 4 (.bool false)] .ret,
zs [zm 62 8,zm 63 13,zd 64 5 62 63,zi 65 64,zm 66 11,zm 67 13,zd 68 5 66 67,zi 69 68,zx 70 (.eqa true [.int .i64,.int .i64,.int .i64,.int .i64,.int .i64] (.t 65) (.t 69))] (zw 70 (.ref 1) .skip),
.seq (.blk 1 (zs [zm 61 59,zm 13 61] (.ref 2))) (.ops [zp 71 59,zm 59 71]),
.seq (zw 60 .skip (.exit 0)) (.ref 3),
zs [zk 60 .lss 59 58] (.ref 4),
zs [zv 4 (.bool true)] .ret,
.seq (zs [zm 57 8,ze 58 57,zv 59 (.int .i64 0)] (.blk 0 (.loop (.ref 5)))) (.ref 6),
.seq (zs [zm 31 7,zK 32 .neq 31 0,zm 33 32,zh 34 33 false 10,zG 35 33 false .neq 34 0,zO 36 33 35,zm 37 36,zh 38 37 false 12,zG 39 37 false .neq 38 0,zO 40 37 39,zm 41 40,zh 42 41 false 8,zg 43 41 false (.lenS (.t 42)),zh 44 41 false 11,zg 45 41 false (.lenS (.t 44)),zg 46 41 false (.cmp .neq .i64 (.t 43) (.t 45)),zO 47 41 46,zm 48 47,zh 49 48 false 1,zg 50 48 false (.eqs .neq (.t 49) (.const (.string (ByteArray.mk (Array.mk []))))),zh 51 48 false 50,zh 52 51 true 8,zg 53 51 true (.lenS (.t 52)),zG 54 51 true .eql 53 0,zg 55 48 false (.pick (.t 51) (.t 54) (.const (.bool false))),zO 56 48 55] (zw 56 (.ref 0) .skip)) (.ref 7),
zs [zm 27 5,zc 28 39 [.t 27],zm 26 28,zy 29 26 0,zy 30 26 1,zm 11 29,zm 12 30] (.ref 8),
zs [zm 21 1,zc 22 40 [.t 21],zm 20 22,zy 23 20 0,zy 24 20 1,zy 25 20 2,zm 8 23,zm 9 24,zm 10 25] (.ref 9),
zs [zm 15 0,zc 16 40 [.t 15],zm 14 16,zy 17 14 0,zy 18 14 1,zy 19 14 2,zm 5 17,zm 6 18,zm 7 19] (.ref 10)]
def X32:XC:=zs [zv 4 (.bool false)] (.ref 11)
abbrev K32:List Nat:=[0,1,4,5,7,8,10,11,12,13,56,58,59,60,70]
theorem n32:Tryz.f32.ntmps=72:=by kernel_rfl
theorem r32:resT Tryz.f32.results.toList=some [4]:=by kernel_rfl
theorem x32:cmpF Tryz.prog Tryz.f32=some (expand T32 13 X32):=by kernel_rfl
attribute [go_sem] X13 T13
attribute [go_sem] X32 T32
end Go.Proofs.YtgghmmjoplddbaaGreatDoor
