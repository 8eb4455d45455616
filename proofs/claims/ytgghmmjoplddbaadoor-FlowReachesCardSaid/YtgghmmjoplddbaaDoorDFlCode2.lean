/- Printed by program: the small code of functions, and that it is theirs. -/
import Derived.Test.YtgghmmjoplddbaaDoorSxStill
import Derived.Test.YtgghmmjoplddbaaDoorProg
import Derived.KernelRfl
set_option linter.unusedSimpArgs false
set_option linter.unusedVariables false
set_option linter.unnecessarySimpa false
namespace Go.Proofs.YtgghmmjoplddbaaDoor
open Go Go.Sx
set_option maxRecDepth 100000
def T15n0 : XC := .seq (.ops [.mk (some 2) none (.k (.mov (.const (.slice none 0 0)))), .mk (some 3) none (.k (.mov (.const (.int .i64 2))))]) .ret
def T15n1 : XC := .seq (.ops [.mk (some 7) none (.k (.mov (.tmp 0))), .mk (some 8) none (.call 19 [.tmp 7]), .mk (some 9) none (.call 38 [.tmp 8]), .mk (some 2) none (.k (.mov (.tmp 9))), .mk (some 3) none (.k (.mov (.const (.int .i64 0))))]) .ret
def T15n2 : XC := .seq (.seq (.ops [.mk (some 4) none (.k (.mov (.tmp 0))), .mk (some 5) none (.k (.lenS (.tmp 4))), .mk (some 6) none (.k (.cmp .gtr .i64 (.tmp 5) (.const (.int .i64 1024))))]) (.cond (.tmp 6) (.ref 0) .skip)) (.ref 1)
def T15 : Nat → XC
 | 0 => T15n0
 | 1 => T15n1
 | 2 => T15n2
 | _ => .skip
theorem t15n0 : T15 0 = T15n0 := rfl
theorem t15n1 : T15 1 = T15n1 := rfl
theorem t15n2 : T15 2 = T15n2 := rfl
def X15 : XC := .seq (.ops [.mk (some 2) none (.k (.mov (.const (.slice none 0 0)))), .mk (some 3) none (.k (.mov (.const (.int .i64 0))))]) (.ref 2)
abbrev K15 : List Nat := [0, 2, 3, 6]
theorem n15 : Tryd.f15.ntmps = 10 := by kernel_rfl
theorem r15 : resT Tryd.f15.results.toList = some [2, 3] := by kernel_rfl
theorem x15 : cmpF Tryd.prog Tryd.f15 = some (expand T15 4 X15) := by kernel_rfl
def T38n0 : XC := .ops [.mk (some 23) none (.k (.mov (.tmp 6))), .mk (some 24) none (.k (.mov (.tmp 7))), .mk (some 25) none (.k (.mov (.tmp 3))), .mk (some 26) none (.k (.mov (.tmp 7))), .mk (some 27) none (.k (.idx 1 (.tmp 25) (.tmp 26))), .mk (some 28) none (.k (.load [.bool] false (.tmp 27))), .mk (some 29) none (.k (.mov (.tmp 28))), .mk (some 30) (some (29, true)) (.k (.mov (.tmp 6))), .mk (some 31) (some (29, true)) (.k (.mov (.tmp 7))), .mk (some 32) (some (29, true)) (.k (.idx 1 (.tmp 30) (.tmp 31))), .mk (some 33) (some (29, true)) (.k (.load [.bool] false (.tmp 32))), .mk (some 34) (some (29, true)) (.k (.not (.tmp 33))), .mk (some 35) none (.k (.pick (.tmp 29) (.tmp 34) (.const (.bool false)))), .mk (some 36) none (.k (.idx 1 (.tmp 23) (.tmp 24))), .mk none none (.k (.store 1 (.tmp 36) (.tmp 35)))]
def T38n1 : XC := .seq (.blk 3 (.seq (.ops [.mk (some 22) none (.k (.mov (.tmp 20))), .mk (some 7) none (.k (.mov (.tmp 22)))]) (.ref 0))) (.ops [.mk (some 37) none (.k (.arith .add .i64 (.tmp 20) (.const (.int .i64 1)))), .mk (some 20) none (.k (.mov (.tmp 37)))])
def T38n2 : XC := .seq (.cond (.tmp 21) .skip (.exit 2)) (.ref 1)
def T38n3 : XC := .seq (.ops [.mk (some 21) none (.k (.cmp .lss .i64 (.tmp 20) (.tmp 19)))]) (.ref 2)
def T38n4 : XC := .ops [.mk (some 38) none (.k (.mov (.tmp 4))), .mk (some 39) none (.k (.mov (.tmp 6))), .mk (some 40) none (.k (.buildS 45 1 1 [.slice none 0 0] [(0, .tmp 39)])), .mk (some 41) none (.k (.app 45 1 24 (.tmp 38) (.tmp 40))), .mk (some 4) none (.k (.mov (.tmp 41)))]
def T38n5 : XC := .seq (.seq (.ops [.mk (some 18) none (.k (.mov (.tmp 6))), .mk (some 19) none (.k (.lenS (.tmp 18))), .mk (some 20) none (.k (.mov (.const (.int .i64 0))))]) (.blk 2 (.loop (.ref 3)))) (.ref 4)
def T38n6 : XC := .seq (.ops [.mk (some 15) none (.k (.mov (.tmp 0))), .mk (some 16) none (.k (.mov (.tmp 5))), .mk (some 17) none (.call 37 [.tmp 15, .tmp 16]), .mk (some 6) none (.k (.mov (.tmp 17)))]) (.ref 5)
def T38n7 : XC := .seq (.blk 1 (.seq (.ops [.mk (some 14) none (.k (.mov (.tmp 12))), .mk (some 5) none (.k (.mov (.tmp 14)))]) (.ref 6))) (.ops [.mk (some 42) none (.k (.arith .add .i64 (.tmp 12) (.const (.int .i64 1)))), .mk (some 12) none (.k (.mov (.tmp 42)))])
def T38n8 : XC := .seq (.cond (.tmp 13) .skip (.exit 0)) (.ref 7)
def T38n9 : XC := .seq (.ops [.mk (some 13) none (.k (.cmp .lss .i64 (.tmp 12) (.tmp 11)))]) (.ref 8)
def T38n10 : XC := .seq (.ops [.mk (some 43) none (.k (.mov (.tmp 4))), .mk (some 2) none (.k (.mov (.tmp 43)))]) .ret
def T38n11 : XC := .seq (.seq (.ops [.mk (some 10) none (.k (.mov (.tmp 0))), .mk (some 11) none (.k (.lenS (.tmp 10))), .mk (some 12) none (.k (.mov (.const (.int .i64 0))))]) (.blk 0 (.loop (.ref 9)))) (.ref 10)
def T38n12 : XC := .seq (.ops [.mk (some 4) none (.k (.mov (.const (.slice none 0 0))))]) (.ref 11)
def T38n13 : XC := .seq (.ops [.mk (some 8) none (.k (.mov (.tmp 0))), .mk (some 9) none (.call 37 [.tmp 8, .const (.int .i64 (-1))]), .mk (some 3) none (.k (.mov (.tmp 9)))]) (.ref 12)
def T38 : Nat → XC
 | 0 => T38n0
 | 1 => T38n1
 | 2 => T38n2
 | 3 => T38n3
 | 4 => T38n4
 | 5 => T38n5
 | 6 => T38n6
 | 7 => T38n7
 | 8 => T38n8
 | 9 => T38n9
 | 10 => T38n10
 | 11 => T38n11
 | 12 => T38n12
 | 13 => T38n13
 | _ => .skip
theorem t38n0 : T38 0 = T38n0 := rfl
theorem t38n1 : T38 1 = T38n1 := rfl
theorem t38n2 : T38 2 = T38n2 := rfl
theorem t38n3 : T38 3 = T38n3 := rfl
theorem t38n4 : T38 4 = T38n4 := rfl
theorem t38n5 : T38 5 = T38n5 := rfl
theorem t38n6 : T38 6 = T38n6 := rfl
theorem t38n7 : T38 7 = T38n7 := rfl
theorem t38n8 : T38 8 = T38n8 := rfl
theorem t38n9 : T38 9 = T38n9 := rfl
theorem t38n10 : T38 10 = T38n10 := rfl
theorem t38n11 : T38 11 = T38n11 := rfl
theorem t38n12 : T38 12 = T38n12 := rfl
theorem t38n13 : T38 13 = T38n13 := rfl
def X38 : XC := .seq (.ops [.mk (some 2) none (.k (.mov (.const (.slice none 0 0))))]) (.ref 13)
abbrev K38 : List Nat := [0, 2, 3, 4, 5, 6, 7, 11, 12, 13, 19, 20, 21]
theorem n38 : Tryd.f38.ntmps = 44 := by kernel_rfl
theorem r38 : resT Tryd.f38.results.toList = some [2] := by kernel_rfl
theorem x38 : cmpF Tryd.prog Tryd.f38 = some (expand T38 15 X38) := by kernel_rfl
end Go.Proofs.YtgghmmjoplddbaaDoor
