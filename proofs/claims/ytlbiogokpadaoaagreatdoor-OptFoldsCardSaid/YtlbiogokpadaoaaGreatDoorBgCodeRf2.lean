/- Printed by program: the small code of functions, and that it is theirs. -/
import Derived.Test.YtlbiogokpadaoaaGreatDoorSxStill
import Derived.Test.YtlbiogokpadaoaaGreatDoorProg
import Derived.KernelRfl
set_option linter.unusedSimpArgs false
set_option linter.unusedVariables false
set_option linter.unnecessarySimpa false
namespace Go.Proofs.YtlbiogokpadaoaaGreatDoor
open Go Go.Sx
set_option maxRecDepth 100000
def T91n0 : XC := .cond (.tmp 5) .skip (.ops [.mk (some 7) none (.k (.cmp .eql .i64 (.tmp 4) (.const (.int .i64 11)))), .mk (some 5) none (.k (.mov (.tmp 7)))])
def T91n1 : XC := .seq (.ops [.mk (some 8) none (.k (.fld 2 (.tmp 1))), .mk (some 9) none (.k (.load [.int .i64] false (.tmp 8))), .mk (some 10) none (.k (.buildS 3 1 1 [.int .i64 0] [(0, .tmp 9)])), .mk (some 2) none (.k (.mov (.tmp 10)))]) .ret
def T91n2 : XC := .cond (.tmp 11) .skip (.ops [.mk (some 18) none (.k (.cmp .eql .i64 (.tmp 4) (.const (.int .i64 10)))), .mk (some 11) none (.k (.mov (.tmp 18)))])
def T91n3 : XC := .seq (.ops [.mk (some 17) none (.k (.cmp .eql .i64 (.tmp 4) (.const (.int .i64 9)))), .mk (some 11) none (.k (.mov (.tmp 17)))]) (.ref 2)
def T91n4 : XC := .seq (.ops [.mk (some 16) none (.k (.cmp .eql .i64 (.tmp 4) (.const (.int .i64 8)))), .mk (some 11) none (.k (.mov (.tmp 16)))]) (.cond (.tmp 11) .skip (.ref 3))
def T91n5 : XC := .seq (.ops [.mk (some 15) none (.k (.cmp .eql .i64 (.tmp 4) (.const (.int .i64 7)))), .mk (some 11) none (.k (.mov (.tmp 15)))]) (.cond (.tmp 11) .skip (.ref 4))
def T91n6 : XC := .seq (.ops [.mk (some 14) none (.k (.cmp .eql .i64 (.tmp 4) (.const (.int .i64 6)))), .mk (some 11) none (.k (.mov (.tmp 14)))]) (.cond (.tmp 11) .skip (.ref 5))
def T91n7 : XC := .seq (.ops [.mk (some 13) none (.k (.cmp .eql .i64 (.tmp 4) (.const (.int .i64 5)))), .mk (some 11) none (.k (.mov (.tmp 13)))]) (.cond (.tmp 11) .skip (.ref 6))
def T91n8 : XC := .seq (.ops [.mk (some 19) none (.k (.fld 2 (.tmp 1))), .mk (some 20) none (.k (.load [.int .i64] false (.tmp 19))), .mk (some 21) none (.k (.fld 3 (.tmp 1))), .mk (some 22) none (.k (.load [.int .i64] false (.tmp 21))), .mk (some 23) none (.k (.buildS 3 2 1 [.int .i64 0] [(0, .tmp 20), (1, .tmp 22)])), .mk (some 2) none (.k (.mov (.tmp 23)))]) .ret
def T91n9 : XC := .cond (.tmp 24) .skip (.ops [.mk (some 28) none (.k (.cmp .eql .i64 (.tmp 4) (.const (.int .i64 16)))), .mk (some 24) none (.k (.mov (.tmp 28)))])
def T91n10 : XC := .seq (.ops [.mk (some 27) none (.k (.cmp .eql .i64 (.tmp 4) (.const (.int .i64 15)))), .mk (some 24) none (.k (.mov (.tmp 27)))]) (.ref 9)
def T91n11 : XC := .seq (.ops [.mk (some 26) none (.k (.cmp .eql .i64 (.tmp 4) (.const (.int .i64 14)))), .mk (some 24) none (.k (.mov (.tmp 26)))]) (.cond (.tmp 24) .skip (.ref 10))
def T91n12 : XC := .seq (.ops [.mk (some 29) none (.k (.fld 1 (.tmp 1))), .mk (some 30) none (.k (.load [.int .i64] false (.tmp 29))), .mk (some 31) none (.k (.fld 2 (.tmp 1))), .mk (some 32) none (.k (.load [.int .i64] false (.tmp 31))), .mk (some 33) none (.k (.buildS 3 2 1 [.int .i64 0] [(0, .tmp 30), (1, .tmp 32)])), .mk (some 2) none (.k (.mov (.tmp 33)))]) .ret
def T91n13 : XC := .seq (.seq (.ops [.mk (some 25) none (.k (.cmp .eql .i64 (.tmp 4) (.const (.int .i64 12)))), .mk (some 24) none (.k (.mov (.tmp 25)))]) (.cond (.tmp 24) .skip (.ref 11))) (.cond (.tmp 24) (.ref 12) .skip)
def T91n14 : XC := .seq (.seq (.ops [.mk (some 12) none (.k (.cmp .eql .i64 (.tmp 4) (.const (.int .i64 4)))), .mk (some 11) none (.k (.mov (.tmp 12)))]) (.cond (.tmp 11) .skip (.ref 7))) (.cond (.tmp 11) (.ref 8) (.ref 13))
def T91n15 : XC := .blk 0 (.seq (.seq (.ops [.mk (some 6) none (.k (.cmp .eql .i64 (.tmp 4) (.const (.int .i64 3)))), .mk (some 5) none (.k (.mov (.tmp 6)))]) (.ref 0)) (.cond (.tmp 5) (.ref 1) (.ref 14)))
def T91n16 : XC := .seq (.ops [.mk (some 2) none (.k (.mov (.const (.slice none 0 0))))]) .ret
def T91n17 : XC := .seq (.seq (.ops [.mk (some 3) none (.k (.fld 0 (.tmp 1))), .mk (some 4) none (.k (.load [.int .i64] false (.tmp 3)))]) (.ref 15)) (.ref 16)
def T91 : Nat → XC
 | 0 => T91n0
 | 1 => T91n1
 | 2 => T91n2
 | 3 => T91n3
 | 4 => T91n4
 | 5 => T91n5
 | 6 => T91n6
 | 7 => T91n7
 | 8 => T91n8
 | 9 => T91n9
 | 10 => T91n10
 | 11 => T91n11
 | 12 => T91n12
 | 13 => T91n13
 | 14 => T91n14
 | 15 => T91n15
 | 16 => T91n16
 | 17 => T91n17
 | _ => .skip
theorem t91n0 : T91 0 = T91n0 := rfl
theorem t91n1 : T91 1 = T91n1 := rfl
theorem t91n2 : T91 2 = T91n2 := rfl
theorem t91n3 : T91 3 = T91n3 := rfl
theorem t91n4 : T91 4 = T91n4 := rfl
theorem t91n5 : T91 5 = T91n5 := rfl
theorem t91n6 : T91 6 = T91n6 := rfl
theorem t91n7 : T91 7 = T91n7 := rfl
theorem t91n8 : T91 8 = T91n8 := rfl
theorem t91n9 : T91 9 = T91n9 := rfl
theorem t91n10 : T91 10 = T91n10 := rfl
theorem t91n11 : T91 11 = T91n11 := rfl
theorem t91n12 : T91 12 = T91n12 := rfl
theorem t91n13 : T91 13 = T91n13 := rfl
theorem t91n14 : T91 14 = T91n14 := rfl
theorem t91n15 : T91 15 = T91n15 := rfl
theorem t91n16 : T91 16 = T91n16 := rfl
theorem t91n17 : T91 17 = T91n17 := rfl
def X91 : XC := .seq (.ops [.mk (some 1) none (.k (.box 41 5 (.tmp 0))), .mk (some 2) none (.k (.mov (.const (.slice none 0 0))))]) (.ref 17)
abbrev K91 : List Nat := [0, 1, 2, 4, 5, 11, 24]
theorem n91 : Tryz.f91.ntmps = 34 := by kernel_rfl
theorem r91 : resT Tryz.f91.results.toList = some [2] := by kernel_rfl
theorem x91 : cmpF Tryz.prog Tryz.f91 = some (expand T91 19 X91) := by kernel_rfl
end Go.Proofs.YtlbiogokpadaoaaGreatDoor
