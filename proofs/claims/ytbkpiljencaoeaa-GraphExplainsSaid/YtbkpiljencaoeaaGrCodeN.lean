/- Printed by program: the small code of functions, and that it is theirs. -/
import Derived.Test.YtbkpiljencaoeaaSxStill
import Derived.Test.YtbkpiljencaoeaaProg
import Derived.KernelRfl
set_option linter.unusedSimpArgs false
set_option linter.unusedVariables false
set_option linter.unnecessarySimpa false
namespace Go.Proofs.Ytbkpiljencaoeaa
open Go Go.Sx
set_option maxRecDepth 100000
theorem r7 : resT Try.f7.results.toList = some [0] := by kernel_rfl
def T8n0 : XC := .seq (.ops [.mk (some 29) none (.k (.mov (.tmp 5))), .mk (some 4) none (.k (.mov (.tmp 29)))]) .ret
def T8n1 : XC := .seq (.ops [.mk (some 38) none (.k (.mov (.tmp 5))), .mk (some 4) none (.k (.mov (.tmp 38)))]) .ret
def T8n2 : XC := .seq (.ops [.mk (some 4) none (.k (.mov (.const (.bool false))))]) .ret
def T8n3 : XC := .seq (.ops [.mk (some 73) none (.k (.mov (.tmp 5))), .mk (some 74) none (.k (.mov (.tmp 73))), .mk (some 75) (some (74, true)) (.k (.mov (.tmp 12))), .mk (some 76) (some (74, true)) (.k (.not (.tmp 75))), .mk (some 77) (some (74, true)) (.k (.mov (.tmp 76))), .mk (some 78) (some (77, false)) (.k (.mov (.tmp 15))), .mk (some 79) (some (77, false)) (.k (.cmp .eql .i64 (.tmp 78) (.const (.int .i64 120)))), .mk (some 80) (some (74, true)) (.k (.pick (.tmp 77) (.const (.bool true)) (.tmp 79))), .mk (some 81) (some (74, true)) (.k (.mov (.tmp 80))), .mk (some 82) (some (81, false)) (.k (.mov (.tmp 14))), .mk (some 83) (some (74, true)) (.k (.pick (.tmp 81) (.const (.bool true)) (.tmp 82))), .mk (some 84) none (.k (.pick (.tmp 74) (.tmp 83) (.const (.bool false)))), .mk (some 4) none (.k (.mov (.tmp 84)))]) .ret
def T8n4 : XC := .seq (.seq (.ops [.mk (some 59) none (.k (.mov (.tmp 10))), .mk (some 60) none (.k (.cmp .neq .i64 (.tmp 59) (.const (.int .i64 0)))), .mk (some 61) none (.k (.mov (.tmp 60))), .mk (some 62) (some (61, false)) (.k (.mov (.tmp 13))), .mk (some 63) (some (61, false)) (.k (.cmp .neq .i64 (.tmp 62) (.const (.int .i64 0)))), .mk (some 64) none (.k (.pick (.tmp 61) (.const (.bool true)) (.tmp 63))), .mk (some 65) none (.k (.mov (.tmp 64))), .mk (some 66) (some (65, false)) (.k (.mov (.tmp 15))), .mk (some 67) (some (65, false)) (.k (.cmp .neq .i64 (.tmp 66) (.const (.int .i64 0)))), .mk (some 68) (some (65, false)) (.k (.mov (.tmp 67))), .mk (some 69) (some (68, true)) (.k (.mov (.tmp 15))), .mk (some 70) (some (68, true)) (.k (.cmp .neq .i64 (.tmp 69) (.const (.int .i64 120)))), .mk (some 71) (some (65, false)) (.k (.pick (.tmp 68) (.tmp 70) (.const (.bool false)))), .mk (some 72) none (.k (.pick (.tmp 65) (.const (.bool true)) (.tmp 71)))]) (.cond (.tmp 72) (.ref 2) .skip)) (.ref 3)
def T8n5 : XC := .seq (.ops [.mk (some 53) none (.k (.mov (.tmp 0))), .mk (some 54) none (.k (.mov (.tmp 1))), .mk (some 55) none (.k (.mov (.tmp 9))), .mk (some 56) none (.call 20 [.tmp 53, .tmp 54, .tmp 55]), .mk (some 52) none (.k (.mov (.tmp 56))), .mk (some 57) none (.k (.ext (.tmp 52) 0)), .mk (some 58) none (.k (.ext (.tmp 52) 1)), .mk (some 14) none (.k (.mov (.tmp 57))), .mk (some 15) none (.k (.mov (.tmp 58)))]) (.ref 4)
def T8n6 : XC := .seq (.ops [.mk (some 46) none (.k (.mov (.tmp 0))), .mk (some 47) none (.k (.mov (.tmp 1))), .mk (some 48) none (.call 23 [.tmp 46, .tmp 47]), .mk (some 45) none (.k (.mov (.tmp 48))), .mk (some 49) none (.k (.ext (.tmp 45) 0)), .mk (some 50) none (.k (.ext (.tmp 45) 1)), .mk (some 51) none (.k (.ext (.tmp 45) 2)), .mk (some 11) none (.k (.mov (.tmp 49))), .mk (some 12) none (.k (.mov (.tmp 50))), .mk (some 13) none (.k (.mov (.tmp 51)))]) (.ref 5)
def T8n7 : XC := .seq (.ops [.mk (some 40) none (.k (.mov (.tmp 6))), .mk (some 41) none (.k (.mov (.tmp 7))), .mk (some 42) none (.call 10 [.tmp 40, .tmp 41]), .mk (some 39) none (.k (.mov (.tmp 42))), .mk (some 43) none (.k (.ext (.tmp 39) 0)), .mk (some 44) none (.k (.ext (.tmp 39) 1)), .mk (some 9) none (.k (.mov (.tmp 43))), .mk (some 10) none (.k (.mov (.tmp 44)))]) (.ref 6)
def T8n8 : XC := .seq (.seq (.ops [.mk (some 36) none (.k (.mov (.tmp 8))), .mk (some 37) none (.k (.cmp .neq .i64 (.tmp 36) (.const (.int .i64 0))))]) (.cond (.tmp 37) (.ref 1) .skip)) (.ref 7)
def T8n9 : XC := .seq (.ops [.mk (some 31) none (.k (.mov (.tmp 0))), .mk (some 32) none (.call 18 [.tmp 31]), .mk (some 30) none (.k (.mov (.tmp 32))), .mk (some 33) none (.k (.ext (.tmp 30) 0)), .mk (some 34) none (.k (.ext (.tmp 30) 1)), .mk (some 35) none (.k (.ext (.tmp 30) 2)), .mk (some 6) none (.k (.mov (.tmp 33))), .mk (some 7) none (.k (.mov (.tmp 34))), .mk (some 8) none (.k (.mov (.tmp 35)))]) (.ref 8)
def T8n10 : XC := .seq (.seq (.ops [.mk (some 17) none (.k (.mov (.tmp 0))), .mk (some 18) none (.k (.lenS (.tmp 17))), .mk (some 19) none (.k (.cmp .gtr .i64 (.tmp 18) (.const (.int .i64 200)))), .mk (some 20) none (.k (.mov (.tmp 19))), .mk (some 21) (some (20, false)) (.k (.mov (.tmp 1))), .mk (some 22) (some (20, false)) (.k (.lenS (.tmp 21))), .mk (some 23) (some (20, false)) (.k (.cmp .gtr .i64 (.tmp 22) (.const (.int .i64 1000)))), .mk (some 24) none (.k (.pick (.tmp 20) (.const (.bool true)) (.tmp 23))), .mk (some 25) none (.k (.mov (.tmp 24))), .mk (some 26) (some (25, false)) (.k (.mov (.tmp 5))), .mk (some 27) (some (25, false)) (.k (.not (.tmp 26))), .mk (some 28) none (.k (.pick (.tmp 25) (.const (.bool true)) (.tmp 27)))]) (.cond (.tmp 28) (.ref 0) .skip)) (.ref 9)
def T8n11 : XC := .seq (.ops [.mk (some 16) none (.call 9 []), .mk (some 5) none (.k (.mov (.tmp 16)))]) (.ref 10)
def T8 : Nat → XC
 | 0 => T8n0
 | 1 => T8n1
 | 2 => T8n2
 | 3 => T8n3
 | 4 => T8n4
 | 5 => T8n5
 | 6 => T8n6
 | 7 => T8n7
 | 8 => T8n8
 | 9 => T8n9
 | 10 => T8n10
 | 11 => T8n11
 | _ => .skip
theorem t8n0 : T8 0 = T8n0 := rfl
theorem t8n1 : T8 1 = T8n1 := rfl
theorem t8n2 : T8 2 = T8n2 := rfl
theorem t8n3 : T8 3 = T8n3 := rfl
theorem t8n4 : T8 4 = T8n4 := rfl
theorem t8n5 : T8 5 = T8n5 := rfl
theorem t8n6 : T8 6 = T8n6 := rfl
theorem t8n7 : T8 7 = T8n7 := rfl
theorem t8n8 : T8 8 = T8n8 := rfl
theorem t8n9 : T8 9 = T8n9 := rfl
theorem t8n10 : T8 10 = T8n10 := rfl
theorem t8n11 : T8 11 = T8n11 := rfl
def X8 : XC := .seq (.ops [.mk (some 4) none (.k (.mov (.const (.bool false))))]) (.ref 11)
abbrev K8 : List Nat := [0, 1, 4, 5, 6, 7, 8, 9, 10, 12, 13, 14, 15, 28, 37, 72]
theorem n8 : Try.f8.ntmps = 85 := by kernel_rfl
theorem r8 : resT Try.f8.results.toList = some [4] := by kernel_rfl
theorem x8 : cmpF Try.prog Try.f8 = some (expand T8 13 X8) := by kernel_rfl
end Go.Proofs.Ytbkpiljencaoeaa
