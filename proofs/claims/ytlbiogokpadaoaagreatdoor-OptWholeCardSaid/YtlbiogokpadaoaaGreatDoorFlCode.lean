/- Printed by program: the small code of functions, and that it is theirs. -/
import Derived.Test.YtlbiogokpadaoaaGreatDoorSxStill
import Derived.Test.YtlbiogokpadaoaaGreatDoorProg
import Derived.KernelRfl
set_option linter.unusedSimpArgs false
set_option linter.unusedVariables false
set_option linter.unnecessarySimpa false
namespace Go.Proofs.YtlbiogokpadaoaaGreatDoor
open Go Go.Sx
set_option maxRecDepth 100000
def T33 (n:Nat):XC:=lkT n [
.ops [zL 27 [.slc] 3,zm 28 5,zp 29 28,zd 30 1 27 29,zl 31 30,zf 32 1 7,zS 1 32 31],
.blk 3 (.ops [zf 39 2 7,zL 40 [.slc] 39,zL 41 [.slc] 3,zm 42 8,zc 43 47 [.t 41,.t 42],.mk none none (.still 40 (.load [.slc] false (.t 39))),zx 44 (.buildS 3 1 1 [.int .i64 0] [(0,.t 43)]),zx 45 (.app 3 1 8 (.t 40) (.t 44)),zf 46 2 7,zS 1 46 45]),
.blk 2 (.rng (.t 37) [38] (.ops [zm 8 38]) (.ref 1)),
.ops [zm 54 4,zx 55 (.load [.int .i64,.int .i64,.slc] true (.t 7)),zx 56 (.buildS 35 1 3 [.int .i64 0,.int .i64 0,.slice none 0 0] [(0,.t 55)]),zx 57 (.app 35 3 40 (.t 54) (.t 56)),zm 4 57],
zs [zf 50 2 7,zL 51 [.slc] 50,zc 52 69 [.t 51],zf 53 2 7,zS 1 53 52] (.ref 3),
zs [zf 47 2 7,zL 48 [.slc] 47,zc 49 68 [.t 48]] (.ref 4),
.seq (zs [zm 33 0,zf 34 1 7,zl 35 34,zx 36 (.arith .sub .i64 (.t 35) (.i 1)),zc 37 67 [.t 33,.t 36]] (.ref 2)) (.ref 5),
.seq (zs [zm 22 5,zp 23 22,zL 24 [.slc] 3,ze 25 24,zk 26 .lss 23 25] (zw 26 (.ref 0) .skip)) (.ref 6),
zs [zm 18 6,zm 19 0,ze 20 19,zx 21 (.build [.int .i64 0,.int .i64 0,.slice none 0 0] [(0,1,.t 18),(1,1,.t 20)]),zx 7 (.alloc 35 [.int .i64 0,.int .i64 0,.slice none 0 0]),zS 3 7 21] (.ref 7),
.seq (.blk 1 (zs [zm 15 13,zd 16 1 11 13,zl 17 16,zm 5 15,zm 6 17] (.ref 8))) (.ops [zp 58 13,zm 13 58]),
.seq (zw 14 .skip (.exit 0)) (.ref 9),
zs [zk 14 .lss 13 12] (.ref 10),
zs [zm 59 4,zm 2 59] .ret,
.seq (zs [zL 11 [.slc] 3,ze 12 11,zv 13 (.int .i64 0)] (.blk 0 (.loop (.ref 11)))) (.ref 12),
zs [zv 4 (.slice none 0 0)] (.ref 13),
zs [zm 9 0,zc 10 48 [.t 9],zx 3 (.alloc 33 [.slice none 0 0]),zS 1 3 10] (.ref 14)]
def X33:XC:=zs [zv 2 (.slice none 0 0)] (.ref 15)
abbrev K33:List Nat:=[0,2,3,4,5,6,7,8,11,12,13,14,26,37,38]
theorem n33:Tryz.f33.ntmps=60:=by kernel_rfl
theorem r33:resT Tryz.f33.results.toList=some [2]:=by kernel_rfl
theorem x33:cmpF Tryz.prog Tryz.f33=some (expand T33 17 X33):=by kernel_rfl
def T47 (n:Nat):XC:=lkT n [
zs [zm 13 5,zm 4 13] .ret,
zs [zm 8 0,zm 9 1,zc 10 78 [.t 8,.t 9],zm 7 10,zy 11 7 0,zy 12 7 1,zm 5 11,zm 6 12] (.ref 0)]
def X47:XC:=zs [zv 4 (.int .i64 0)] (.ref 1)
abbrev K47:List Nat:=[0,1,4,5]
theorem n47:Tryz.f47.ntmps=14:=by kernel_rfl
theorem r47:resT Tryz.f47.results.toList=some [4]:=by kernel_rfl
theorem x47:cmpF Tryz.prog Tryz.f47=some (expand T47 3 X47):=by kernel_rfl
def T48 (n:Nat):XC:=lkT n [
zs [zv 2 (.slice none 0 0)] .ret,
.ops [zm 25 3,zm 26 4,zp 27 26,zx 28 (.buildS 3 1 1 [.int .i64 0] [(0,.t 27)]),zx 29 (.app 3 1 8 (.t 25) (.t 28)),zm 3 29],
.ops [zm 30 3,zm 31 0,zm 32 4,zc 33 67 [.t 31,.t 32],zc 34 80 [.t 30,.t 33],zm 3 34],
.seq (zs [zm 20 4,zp 21 20,zm 22 0,ze 23 22,zk 24 .lss 21 23] (zw 24 (.ref 1) .skip)) (.ref 2),
.seq (zs [zi 17 5,zc 18 79 [.t 17],zx 19 (.not (.t 18))] (zw 19 (.exit 1) .skip)) (.ref 3),
.seq (.blk 1 (zs [zm 14 12,zd 15 5 10 12,zi 16 15,zx 5 (.alloc 41 [.int .i64 0,.int .i64 0,.int .i64 0,.int .i64 0,.int .i64 0]),zm 4 14,zS 5 5 16] (.ref 4))) (.ops [zp 35 12,zm 12 35]),
.seq (zw 13 .skip (.exit 0)) (.ref 5),
zs [zk 13 .lss 12 11] (.ref 6),
zs [zm 38 3,zc 39 69 [.t 38],zm 2 39] .ret,
zs [zm 36 3,zc 37 68 [.t 36]] (.ref 8),
.seq (zs [zm 10 0,ze 11 10,zv 12 (.int .i64 0)] (.blk 0 (.loop (.ref 7)))) (.ref 9),
zs [zx 9 (.buildS 3 1 1 [.int .i64 0] [(0,.i 0)]),zm 3 9] (.ref 10),
.seq (zs [zm 6 0,ze 7 6,zK 8 .eql 7 0] (zw 8 (.ref 0) .skip)) (.ref 11)]
def X48:XC:=zs [zv 2 (.slice none 0 0)] (.ref 12)
abbrev K48:List Nat:=[0,2,3,4,5,8,10,11,12,13,19,24]
theorem n48:Tryz.f48.ntmps=40:=by kernel_rfl
theorem r48:resT Tryz.f48.results.toList=some [2]:=by kernel_rfl
theorem x48:cmpF Tryz.prog Tryz.f48=some (expand T48 14 X48):=by kernel_rfl
def T67 (n:Nat):XC:=lkT n [
zs [zx 5 (.mkfn (.func 98) [] [.t 2,.t 3]),zm 4 5] .ret]
def X67:XC:=zs [zx 2 (.box 22 1 (.t 0)),zx 3 (.box 3 1 (.t 1)),zv 4 .nilFunc] (.ref 0)
abbrev K67:List Nat:=[0,1,2,3,4]
theorem n67:Tryz.f67.ntmps=6:=by kernel_rfl
theorem r67:resT Tryz.f67.results.toList=some [4]:=by kernel_rfl
theorem x67:cmpF Tryz.prog Tryz.f67=some (expand T67 2 X67):=by kernel_rfl
def T69 (n:Nat):XC:=lkT n [
zs [zm 9 0,zm 2 9] .ret,
.ops [zm 52 3,zp 53 52,zm 3 53],
zs [zm 45 0,zm 46 3,zm 47 4,zm 48 5,zd 49 1 47 48,zl 50 49,zd 51 1 45 46,zS 1 51 50] (.ref 1),
.ops [zm 33 5,zp 34 33,zm 5 34],
.seq (.blk 3 (zs [zm 35 4,zm 36 5,zd 37 1 35 36,zl 38 37,zm 39 4,zm 40 5,zx 41 (.arith .sub .i64 (.t 40) (.i 1)),zd 42 1 39 41,zl 43 42,zk 44 .neq 38 43] (zw 44 (.ref 2) .skip))) (.ref 3),
.seq (zs [zm 29 5,zm 30 4,ze 31 30,zk 32 .lss 29 31] (zw 32 .skip (.exit 2))) (.ref 4),
zs [zm 57 0,zm 58 3,zx 59 (.sub 1 (.t 57) none (some (.t 58))),zm 2 59] .ret,
zs [zm 54 0,zm 55 3,zx 56 (.sub 1 (.t 54) (some (.t 55)) none),zn (.clr 1 [.int .i64 0] (.t 56))] (.ref 6),
.seq (zs [zv 5 (.int .i64 1)] (.blk 2 (.loop (.ref 5)))) (.ref 7),
zs [zm 26 0,zm 27 3,zx 28 (.sub 1 (.t 26) (some (.t 27)) none),zm 4 28] (.ref 8),
.ops [zm 14 3,zp 15 14,zm 3 15],
.seq (.blk 1 (zs [zm 16 0,zm 17 3,zd 18 1 16 17,zl 19 18,zm 20 0,zm 21 3,zx 22 (.arith .sub .i64 (.t 21) (.i 1)),zd 23 1 20 22,zl 24 23,zk 25 .eql 19 24] (zw 25 (.ref 9) .skip))) (.ref 10),
.seq (zs [zm 10 3,zm 11 0,ze 12 11,zk 13 .lss 10 12] (zw 13 .skip (.exit 0))) (.ref 11),
zs [zm 60 0,zm 2 60] .ret,
.seq (zs [zv 3 (.int .i64 1)] (.blk 0 (.loop (.ref 12)))) (.ref 13),
.seq (zs [zm 6 0,ze 7 6,zK 8 .lss 7 2] (zw 8 (.ref 0) .skip)) (.ref 14)]
def X69:XC:=zs [zv 2 (.slice none 0 0)] (.ref 15)
abbrev K69:List Nat:=[0,2,3,4,5,8,13,25,32,44]
theorem n69:Tryz.f69.ntmps=61:=by kernel_rfl
theorem r69:resT Tryz.f69.results.toList=some [2]:=by kernel_rfl
theorem x69:cmpF Tryz.prog Tryz.f69=some (expand T69 17 X69):=by kernel_rfl
def T79 (n:Nat):XC:=lkT n [
zs [zi 3 1,zc 4 21 [.t 3],zx 5 (.not (.t 4)),zm 6 5,zg 7 6 false (.fld 0 (.t 1)),zg 8 6 false (.load [.int .i64] false (.t 7)),zG 9 6 false .eql 8 1,zO 10 6 9,zm 11 10,zg 12 11 false (.fld 0 (.t 1)),zg 13 11 false (.load [.int .i64] false (.t 12)),.mk (some 14) (some (11,false)) (.call 99 [.t 13]),zO 15 11 14,zm 2 15] .ret]
def X79:XC:=zs [zx 1 (.box 41 5 (.t 0)),zv 2 (.bool false)] (.ref 0)
abbrev K79:List Nat:=[0,1,2]
theorem n79:Tryz.f79.ntmps=16:=by kernel_rfl
theorem r79:resT Tryz.f79.results.toList=some [2]:=by kernel_rfl
theorem x79:cmpF Tryz.prog Tryz.f79=some (expand T79 2 X79):=by kernel_rfl
def T80 (n:Nat):XC:=lkT n [
.blk 1 (.ops [zL 8 [.slc] 2,zm 9 5,zx 10 (.buildS 3 1 1 [.int .i64 0] [(0,.t 9)]),zx 11 (.app 3 1 8 (.t 8) (.t 10)),zS 1 2 11]),
.blk 0 (.rng (.t 6) [7] (.ops [zm 5 7]) (.ref 0)),
zs [zL 12 [.slc] 2,zm 4 12] .ret,
.seq (zs [zm 6 1] (.ref 1)) (.ref 2)]
def X80:XC:=zs [zx 2 (.box 33 1 (.t 0)),zv 4 (.slice none 0 0)] (.ref 3)
abbrev K80:List Nat:=[0,1,2,4,5,6,7]
theorem n80:Tryz.f80.ntmps=13:=by kernel_rfl
theorem r80:resT Tryz.f80.results.toList=some [4]:=by kernel_rfl
theorem x80:cmpF Tryz.prog Tryz.f80=some (expand T80 5 X80):=by kernel_rfl
def T98 (n:Nat):XC:=lkT n [
.ops [zm 49 0,zl 50 2,zp 51 50,.mk (some 52) none (.callv (.t 49) [.t 51])],
zs [zf 39 0 4,zl 40 39,zK 41 .neq 40 13,zm 42 41,zg 43 42 true (.load [.int .i64] false (.t 2)),zg 44 42 true (.arith .add .i64 (.t 43) (.i 1)),zg 45 42 true (.load [.slc] false (.t 1)),zg 46 42 true (.lenS (.t 45)),zg 47 42 true (.cmp .lss .i64 (.t 44) (.t 46)),zA 48 42 47] (zw 48 (.ref 0) .skip),
.seq (zs [zf 17 0 4,zl 18 17,zc 19 99 [.t 18],zm 20 19,zg 21 20 true (.fld 4 (.t 4)),zg 22 20 true (.load [.int .i64] false (.t 21)),zG 23 20 true .geq 22 0,zA 24 20 23,zm 25 24,zg 26 25 true (.fld 4 (.t 4)),zg 27 25 true (.load [.int .i64] false (.t 26)),zg 28 25 true (.load [.slc] false (.t 1)),zg 29 25 true (.lenS (.t 28)),zg 30 25 true (.cmp .lss .i64 (.t 27) (.t 29)),zA 31 25 30,zm 32 31,zh 33 32 true 0,zg 34 32 true (.fld 4 (.t 4)),zg 35 32 true (.load [.int .i64] false (.t 34)),.mk (some 36) (some (32,true)) (.callv (.t 33) [.t 35]),zg 37 32 true (.not (.t 36)),zA 38 32 37] (zw 38 .ret .skip)) (.ref 1),
.seq (zs [zi 9 4,zc 10 21 [.t 9],zx 11 (.not (.t 10)),zm 12 11,zg 13 12 false (.fld 0 (.t 4)),zg 14 12 false (.load [.int .i64] false (.t 13)),zG 15 12 false .eql 14 1,zO 16 12 15] (zw 16 .ret .skip)) (.ref 2)]
def X98:XC:=zs [zL 5 [.slc] 1,zl 6 2,zd 7 5 5 6,zi 8 7,zx 4 (.alloc 41 [.int .i64 0,.int .i64 0,.int .i64 0,.int .i64 0,.int .i64 0]),zS 5 4 8] (.ref 3)
abbrev K98:List Nat:=[0,1,2,4,16,38,48]
theorem n98:Tryz.f98.ntmps=53:=by kernel_rfl
theorem r98:resT Tryz.f98.results.toList=some []:=by kernel_rfl
theorem x98:cmpF Tryz.prog Tryz.f98=some (expand T98 5 X98):=by kernel_rfl
def T99 (n:Nat):XC:=lkT n [
zs [zm 3 0,zK 4 .geq 3 13,zm 5 4,zh 6 5 true 0,zG 7 5 true .leq 6 16,zA 8 5 7,zm 2 8] .ret]
def X99:XC:=zs [zv 2 (.bool false)] (.ref 0)
abbrev K99:List Nat:=[0,2]
theorem n99:Tryz.f99.ntmps=9:=by kernel_rfl
theorem r99:resT Tryz.f99.results.toList=some [2]:=by kernel_rfl
theorem x99:cmpF Tryz.prog Tryz.f99=some (expand T99 2 X99):=by kernel_rfl
theorem n23:Tryz.f23.ntmps=25:=by kernel_rfl
def T17 (n:Nat):XC:=lkT n [
zs [zv 2 (.slice none 0 0),zv 3 (.int .i64 2)] .ret,
zs [zm 7 0,zc 8 33 [.t 7],zm 2 8,zv 3 (.int .i64 0)] .ret,
.seq (zs [zm 4 0,ze 5 4,zK 6 .gtr 5 1024] (zw 6 (.ref 0) .skip)) (.ref 1)]
def X17:XC:=zs [zv 2 (.slice none 0 0),zv 3 (.int .i64 0)] (.ref 2)
abbrev K17:List Nat:=[0,2,3,6]
theorem n17:Tryz.f17.ntmps=9:=by kernel_rfl
theorem r17:resT Tryz.f17.results.toList=some [2,3]:=by kernel_rfl
theorem x17:cmpF Tryz.prog Tryz.f17=some (expand T17 4 X17):=by kernel_rfl
attribute [go_sem] X33 T33
attribute [go_sem] X47 T47
attribute [go_sem] X48 T48
attribute [go_sem] X67 T67
attribute [go_sem] X69 T69
attribute [go_sem] X79 T79
attribute [go_sem] X80 T80
attribute [go_sem] X98 T98
attribute [go_sem] X99 T99
attribute [go_sem] X17 T17
end Go.Proofs.YtlbiogokpadaoaaGreatDoor
