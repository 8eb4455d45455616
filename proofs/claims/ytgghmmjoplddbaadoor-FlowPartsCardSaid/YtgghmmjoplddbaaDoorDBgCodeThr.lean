/- Printed by program: the small code of functions, and that it is theirs. -/
import Derived.Test.YtgghmmjoplddbaaDoorSxStill
import Derived.Test.YtgghmmjoplddbaaDoorProg
import Derived.KernelRfl
set_option linter.unusedSimpArgs false
set_option linter.unusedVariables false
set_option linter.unnecessarySimpa false
namespace Go.Proofs.YtgghmmjoplddbaaDoor
open Go Go.Sx
set_option maxRecDepth 100000
def T10n0 : XC := .seq (.ops [.mk (some 4) none (.k (.mov (.const (.bool false))))]) .ret
def T10n1 : XC := .seq (.ops [.mk (some 4) none (.k (.mov (.const (.bool false))))]) .ret
def T10n2 : XC := .ops [.mk (some 15) none (.k (.mov (.tmp 5))), .mk (some 16) none (.k (.arith .add .i64 (.tmp 15) (.const (.int .i64 1)))), .mk (some 5) none (.k (.mov (.tmp 16)))]
def T10n3 : XC := .seq (.blk 1 (.seq (.ops [.mk (some 17) none (.k (.mov (.tmp 0))), .mk (some 18) none (.k (.mov (.tmp 5))), .mk (some 19) none (.k (.idx 5 (.tmp 17) (.tmp 18))), .mk (some 20) none (.k (.load [.int .i64, .int .i64, .int .i64, .int .i64, .int .i64] true (.tmp 19))), .mk (some 21) none (.k (.mov (.tmp 1))), .mk (some 22) none (.k (.mov (.tmp 5))), .mk (some 23) none (.k (.idx 5 (.tmp 21) (.tmp 22))), .mk (some 24) none (.k (.load [.int .i64, .int .i64, .int .i64, .int .i64, .int .i64] true (.tmp 23))), .mk (some 25) none (.k (.eqa true [.int .i64, .int .i64, .int .i64, .int .i64, .int .i64] (.tmp 20) (.tmp 24)))]) (.cond (.tmp 25) (.ref 1) .skip))) (.ref 2)
def T10n4 : XC := .seq (.seq (.ops [.mk (some 11) none (.k (.mov (.tmp 5))), .mk (some 12) none (.k (.mov (.tmp 0))), .mk (some 13) none (.k (.lenS (.tmp 12))), .mk (some 14) none (.k (.cmp .lss .i64 (.tmp 11) (.tmp 13)))]) (.cond (.tmp 14) .skip (.exit 0))) (.ref 3)
def T10n5 : XC := .seq (.ops [.mk (some 4) none (.k (.mov (.const (.bool true))))]) .ret
def T10n6 : XC := .seq (.seq (.ops [.mk (some 5) none (.k (.mov (.const (.int .i64 0))))]) (.blk 0 (.loop (.ref 4)))) (.ref 5)
def T10n7 : XC := .seq (.seq (.ops [.mk (some 6) none (.k (.mov (.tmp 0))), .mk (some 7) none (.k (.lenS (.tmp 6))), .mk (some 8) none (.k (.mov (.tmp 1))), .mk (some 9) none (.k (.lenS (.tmp 8))), .mk (some 10) none (.k (.cmp .neq .i64 (.tmp 7) (.tmp 9)))]) (.cond (.tmp 10) (.ref 0) .skip)) (.ref 6)
def T10 : Nat → XC
 | 0 => T10n0
 | 1 => T10n1
 | 2 => T10n2
 | 3 => T10n3
 | 4 => T10n4
 | 5 => T10n5
 | 6 => T10n6
 | 7 => T10n7
 | _ => .skip
theorem t10n0 : T10 0 = T10n0 := rfl
theorem t10n1 : T10 1 = T10n1 := rfl
theorem t10n2 : T10 2 = T10n2 := rfl
theorem t10n3 : T10 3 = T10n3 := rfl
theorem t10n4 : T10 4 = T10n4 := rfl
theorem t10n5 : T10 5 = T10n5 := rfl
theorem t10n6 : T10 6 = T10n6 := rfl
theorem t10n7 : T10 7 = T10n7 := rfl
def X10 : XC := .seq (.ops [.mk (some 4) none (.k (.mov (.const (.bool false))))]) (.ref 7)
abbrev K10 : List Nat := [0, 1, 4, 5, 10, 14, 25]
theorem n10 : Tryd.f10.ntmps = 26 := by kernel_rfl
theorem r10 : resT Tryd.f10.results.toList = some [4] := by kernel_rfl
theorem x10 : cmpF Tryd.prog Tryd.f10 = some (expand T10 9 X10) := by kernel_rfl
end Go.Proofs.YtgghmmjoplddbaaDoor
