/- Printed by program: the small code of functions, and that it is theirs. -/
import Derived.Test.YtimmobbginjkfaaSxStill
import Derived.Test.YtimmobbginjkfaaProg
import Derived.KernelRfl
set_option linter.unusedSimpArgs false
set_option linter.unusedVariables false
set_option linter.unnecessarySimpa false
namespace Go.Proofs.Ytimmobbginjkfaa
open Go Go.Sx
set_option maxRecDepth 100000
def T8n0 : XC := .seq (.ops [.mk (some 4) none (.k (.mov (.const (.pointer none)))), .mk (some 5) none (.k (.mov (.const (.int .i64 2))))]) .ret
def T8n1 : XC := .seq (.ops [.mk (some 20) none (.k (.mov (.tmp 0))), .mk (some 21) none (.k (.mov (.tmp 1))), .mk (some 22) none (.k (.mov (.tmp 0))), .mk (some 23) none (.k (.mov (.tmp 1))), .mk (some 24) none (.k (.arith .mul .i64 (.tmp 22) (.tmp 23))), .mk (some 25) none (.k (.mkslc 44 21 160 [.int .i64 0, .int .i64 0, .bool false, .bool false, .int .u64 0, .int .u64 0, .int .u64 0, .int .u64 0, .int .u64 0, .int .u64 0, .int .u64 0, .int .u64 0, .int .u64 0, .int .u64 0, .int .u64 0, .int .u64 0, .int .u64 0, .int .u64 0, .int .u64 0, .int .u64 0, .int .i64 0] (.tmp 24) (.tmp 24))), .mk (some 26) none (.k (.build [.int .i64 0, .int .i64 0, .slice none 0 0, .int .i64 0] [(0, 1, .tmp 20), (1, 1, .tmp 21), (2, 1, .tmp 25)])), .mk (some 27) none (.k (.box 66 4 (.tmp 26))), .mk (some 4) none (.k (.mov (.tmp 27))), .mk (some 5) none (.k (.mov (.const (.int .i64 0))))]) .ret
def T8n2 : XC := .seq (.seq (.ops [.mk (some 6) none (.k (.mov (.tmp 0))), .mk (some 7) none (.k (.cmp .lss .i64 (.tmp 6) (.const (.int .i64 1)))), .mk (some 8) none (.k (.mov (.tmp 7))), .mk (some 9) (some (8, false)) (.k (.mov (.tmp 0))), .mk (some 10) (some (8, false)) (.k (.cmp .gtr .i64 (.tmp 9) (.const (.int .i64 8)))), .mk (some 11) none (.k (.pick (.tmp 8) (.const (.bool true)) (.tmp 10))), .mk (some 12) none (.k (.mov (.tmp 11))), .mk (some 13) (some (12, false)) (.k (.mov (.tmp 1))), .mk (some 14) (some (12, false)) (.k (.cmp .lss .i64 (.tmp 13) (.const (.int .i64 1)))), .mk (some 15) none (.k (.pick (.tmp 12) (.const (.bool true)) (.tmp 14))), .mk (some 16) none (.k (.mov (.tmp 15))), .mk (some 17) (some (16, false)) (.k (.mov (.tmp 1))), .mk (some 18) (some (16, false)) (.k (.cmp .gtr .i64 (.tmp 17) (.const (.int .i64 4)))), .mk (some 19) none (.k (.pick (.tmp 16) (.const (.bool true)) (.tmp 18)))]) (.cond (.tmp 19) (.ref 0) .skip)) (.ref 1)
def T8 : Nat → XC
 | 0 => T8n0
 | 1 => T8n1
 | 2 => T8n2
 | _ => .skip
theorem t8n0 : T8 0 = T8n0 := rfl
theorem t8n1 : T8 1 = T8n1 := rfl
theorem t8n2 : T8 2 = T8n2 := rfl
def X8 : XC := .seq (.ops [.mk (some 4) none (.k (.mov (.const (.pointer none)))), .mk (some 5) none (.k (.mov (.const (.int .i64 0))))]) (.ref 2)
abbrev K8 : List Nat := [0, 1, 4, 5, 19]
theorem n8 : Try.f8.ntmps = 28 := by kernel_rfl
theorem r8 : resT Try.f8.results.toList = some [4, 5] := by kernel_rfl
theorem x8 : cmpF Try.prog Try.f8 = some (expand T8 4 X8) := by kernel_rfl
def T10n0 : XC := .seq (.ops [.mk (some 2) none (.k (.mov (.const (.int .i64 1))))]) .ret
def T10n1 : XC := .blk 1 (.ops [.mk (some 9) none (.k (.mov (.tmp 3))), .mk (some 10) none (.k (.mov (.tmp 3))), .mk (some 11) none (.k (.mov (.tmp 3))), .mk (some 12) none (.k (.build [.int .u64 0, .int .u64 0, .int .u64 0, .int .u64 0, .int .u64 0, .int .u64 0, .int .u64 0, .int .u64 0] [])), .mk (some 13) none (.k (.nilc (.tmp 9))), .mk (some 14) none (.k (.fld 2 (.tmp 13))), .mk none none (.k (.store 1 (.tmp 14) (.const (.bool false)))), .mk (some 15) none (.k (.nilc (.tmp 10))), .mk (some 16) none (.k (.fld 3 (.tmp 15))), .mk none none (.k (.store 1 (.tmp 16) (.const (.bool false)))), .mk (some 17) none (.k (.nilc (.tmp 11))), .mk (some 18) none (.k (.fld 12 (.tmp 17))), .mk none none (.k (.store 8 (.tmp 18) (.tmp 12)))])
def T10n2 : XC := .blk 0 (.rng (.tmp 7) [8] (.ops [.mk (some 3) none (.k (.mov (.tmp 8)))]) (.ref 1))
def T10n3 : XC := .seq (.ops [.mk (some 2) none (.k (.mov (.const (.int .i64 0))))]) .ret
def T10n4 : XC := .seq (.seq (.ops [.mk (some 6) none (.k (.mov (.tmp 0))), .mk (some 7) none (.call 24 [.tmp 6])]) (.ref 2)) (.ref 3)
def T10n5 : XC := .seq (.seq (.ops [.mk (some 4) none (.k (.mov (.tmp 0))), .mk (some 5) none (.k (.isnil NK.p false (.tmp 4)))]) (.cond (.tmp 5) (.ref 0) .skip)) (.ref 4)
def T10 : Nat → XC
 | 0 => T10n0
 | 1 => T10n1
 | 2 => T10n2
 | 3 => T10n3
 | 4 => T10n4
 | 5 => T10n5
 | _ => .skip
theorem t10n0 : T10 0 = T10n0 := rfl
theorem t10n1 : T10 1 = T10n1 := rfl
theorem t10n2 : T10 2 = T10n2 := rfl
theorem t10n3 : T10 3 = T10n3 := rfl
theorem t10n4 : T10 4 = T10n4 := rfl
theorem t10n5 : T10 5 = T10n5 := rfl
def X10 : XC := .seq (.ops [.mk (some 2) none (.k (.mov (.const (.int .i64 0))))]) (.ref 5)
abbrev K10 : List Nat := [0, 2, 3, 5, 7, 8]
theorem n10 : Try.f10.ntmps = 19 := by kernel_rfl
theorem r10 : resT Try.f10.results.toList = some [2] := by kernel_rfl
theorem x10 : cmpF Try.prog Try.f10 = some (expand T10 7 X10) := by kernel_rfl
def T11n0 : XC := .blk 1 (.ops [.mk (some 8) none (.k (.load [.slc] false (.tmp 3))), .mk (some 9) none (.k (.mov (.tmp 4))), .mk (some 10) none (.k (.nilc (.tmp 9))), .mk (some 11) none (.k (.load [.int .i64, .int .i64, .bool, .bool, .int .u64, .int .u64, .int .u64, .int .u64, .int .u64, .int .u64, .int .u64, .int .u64, .int .u64, .int .u64, .int .u64, .int .u64, .int .u64, .int .u64, .int .u64, .int .u64, .int .i64] true (.tmp 10))), .mk (some 12) none (.k (.buildS 44 1 21 [.int .i64 0, .int .i64 0, .bool false, .bool false, .int .u64 0, .int .u64 0, .int .u64 0, .int .u64 0, .int .u64 0, .int .u64 0, .int .u64 0, .int .u64 0, .int .u64 0, .int .u64 0, .int .u64 0, .int .u64 0, .int .u64 0, .int .u64 0, .int .u64 0, .int .u64 0, .int .i64 0] [(0, .tmp 11)])), .mk (some 13) none (.k (.app 44 21 160 (.tmp 8) (.tmp 12))), .mk none none (.k (.store 1 (.tmp 3) (.tmp 13)))])
def T11n1 : XC := .blk 0 (.rng (.tmp 6) [7] (.ops [.mk (some 4) none (.k (.mov (.tmp 7)))]) (.ref 0))
def T11n2 : XC := .seq (.ops [.mk (some 16) none (.k (.load [.slc] false (.tmp 3))), .mk (some 2) none (.k (.mov (.tmp 16)))]) .ret
def T11n3 : XC := .seq (.ops [.mk (some 14) none (.k (.load [.slc] false (.tmp 3))), .mk (some 15) none (.call 25 [.tmp 14, .func 26])]) (.ref 2)
def T11n4 : XC := .seq (.seq (.ops [.mk (some 5) none (.k (.mov (.tmp 0))), .mk (some 6) none (.call 24 [.tmp 5])]) (.ref 1)) (.ref 3)
def T11n5 : XC := .seq (.ops [.mk (some 3) none (.k (.alloc 32 [.slice none 0 0]))]) (.ref 4)
def T11 : Nat → XC
 | 0 => T11n0
 | 1 => T11n1
 | 2 => T11n2
 | 3 => T11n3
 | 4 => T11n4
 | 5 => T11n5
 | _ => .skip
theorem t11n0 : T11 0 = T11n0 := rfl
theorem t11n1 : T11 1 = T11n1 := rfl
theorem t11n2 : T11 2 = T11n2 := rfl
theorem t11n3 : T11 3 = T11n3 := rfl
theorem t11n4 : T11 4 = T11n4 := rfl
theorem t11n5 : T11 5 = T11n5 := rfl
def X11 : XC := .seq (.ops [.mk (some 2) none (.k (.mov (.const (.slice none 0 0))))]) (.ref 5)
abbrev K11 : List Nat := [0, 2, 3, 4, 6, 7]
theorem n11 : Try.f11.ntmps = 17 := by kernel_rfl
theorem r11 : resT Try.f11.results.toList = some [2] := by kernel_rfl
theorem x11 : cmpF Try.prog Try.f11 = some (expand T11 7 X11) := by kernel_rfl
def T12n0 : XC := .ops [.mk (some 21) none (.k (.mov (.tmp 7))), .mk (some 22) none (.k (.nilc (.tmp 21))), .mk (some 23) none (.k (.fld 2 (.tmp 22))), .mk none none (.k (.store 1 (.tmp 23) (.const (.bool true))))]
def T12n1 : XC := .seq (.ops [.mk (some 24) none (.k (.mov (.tmp 8))), .mk (some 6) none (.k (.mov (.tmp 24)))]) .ret
def T12n2 : XC := .seq (.seq (.ops [.mk (some 19) none (.k (.mov (.tmp 8))), .mk (some 20) none (.k (.cmp .eql .i64 (.tmp 19) (.const (.int .i64 0))))]) (.cond (.tmp 20) (.ref 0) .skip)) (.ref 1)
def T12n3 : XC := .seq (.ops [.mk (some 14) none (.k (.mov (.tmp 0))), .mk (some 15) none (.k (.mov (.tmp 1))), .mk (some 16) none (.call 28 [.tmp 14, .tmp 15, .const (.int .i64 0)]), .mk (some 13) none (.k (.mov (.tmp 16))), .mk (some 17) none (.k (.ext (.tmp 13) 0)), .mk (some 18) none (.k (.ext (.tmp 13) 1)), .mk (some 7) none (.k (.mov (.tmp 17))), .mk (some 8) none (.k (.mov (.tmp 18)))]) (.ref 2)
def T12n4 : XC := .ops [.mk (some 40) none (.k (.mov (.tmp 9))), .mk (some 41) none (.k (.mov (.tmp 9))), .mk (some 42) none (.k (.mov (.tmp 9))), .mk (some 43) none (.k (.nilc (.tmp 42))), .mk (some 44) none (.k (.fld 4 (.tmp 43))), .mk (some 45) none (.k (.load [.int .u64, .int .u64, .int .u64, .int .u64, .int .u64, .int .u64, .int .u64, .int .u64] true (.tmp 44))), .mk (some 46) none (.k (.nilc (.tmp 40))), .mk (some 47) none (.k (.fld 3 (.tmp 46))), .mk none none (.k (.store 1 (.tmp 47) (.const (.bool true)))), .mk (some 48) none (.k (.nilc (.tmp 41))), .mk (some 49) none (.k (.fld 12 (.tmp 48))), .mk none none (.k (.store 8 (.tmp 49) (.tmp 45)))]
def T12n5 : XC := .seq (.ops [.mk (some 50) none (.k (.mov (.tmp 10))), .mk (some 6) none (.k (.mov (.tmp 50)))]) .ret
def T12n6 : XC := .seq (.seq (.ops [.mk (some 31) none (.k (.mov (.tmp 10))), .mk (some 32) none (.k (.cmp .eql .i64 (.tmp 31) (.const (.int .i64 0)))), .mk (some 33) none (.k (.mov (.tmp 32))), .mk (some 34) (some (33, true)) (.k (.mov (.tmp 9))), .mk (some 35) (some (33, true)) (.k (.nilc (.tmp 34))), .mk (some 36) (some (33, true)) (.k (.fld 3 (.tmp 35))), .mk (some 37) (some (33, true)) (.k (.load [.bool] false (.tmp 36))), .mk (some 38) (some (33, true)) (.k (.not (.tmp 37))), .mk (some 39) none (.k (.pick (.tmp 33) (.tmp 38) (.const (.bool false))))]) (.cond (.tmp 39) (.ref 4) .skip)) (.ref 5)
def T12n7 : XC := .seq (.ops [.mk (some 26) none (.k (.mov (.tmp 0))), .mk (some 27) none (.k (.mov (.tmp 1))), .mk (some 28) none (.call 28 [.tmp 26, .tmp 27, .const (.int .i64 2)]), .mk (some 25) none (.k (.mov (.tmp 28))), .mk (some 29) none (.k (.ext (.tmp 25) 0)), .mk (some 30) none (.k (.ext (.tmp 25) 1)), .mk (some 9) none (.k (.mov (.tmp 29))), .mk (some 10) none (.k (.mov (.tmp 30)))]) (.ref 6)
def T12n8 : XC := .seq (.seq (.ops [.mk (some 11) none (.k (.mov (.tmp 2))), .mk (some 12) none (.k (.not (.tmp 11)))]) (.cond (.tmp 12) (.ref 3) .skip)) (.ref 7)
def T12 : Nat → XC
 | 0 => T12n0
 | 1 => T12n1
 | 2 => T12n2
 | 3 => T12n3
 | 4 => T12n4
 | 5 => T12n5
 | 6 => T12n6
 | 7 => T12n7
 | 8 => T12n8
 | _ => .skip
theorem t12n0 : T12 0 = T12n0 := rfl
theorem t12n1 : T12 1 = T12n1 := rfl
theorem t12n2 : T12 2 = T12n2 := rfl
theorem t12n3 : T12 3 = T12n3 := rfl
theorem t12n4 : T12 4 = T12n4 := rfl
theorem t12n5 : T12 5 = T12n5 := rfl
theorem t12n6 : T12 6 = T12n6 := rfl
theorem t12n7 : T12 7 = T12n7 := rfl
theorem t12n8 : T12 8 = T12n8 := rfl
def X12 : XC := .seq (.ops [.mk (some 6) none (.k (.mov (.const (.int .i64 0))))]) (.ref 8)
abbrev K12 : List Nat := [0, 1, 2, 6, 7, 8, 9, 10, 12, 20, 39]
theorem n12 : Try.f12.ntmps = 51 := by kernel_rfl
theorem r12 : resT Try.f12.results.toList = some [6] := by kernel_rfl
theorem x12 : cmpF Try.prog Try.f12 = some (expand T12 10 X12) := by kernel_rfl
def T13n0 : XC := .seq (.ops [.mk (some 6) none (.k (.mov (.const (.int .i64 2))))]) .ret
def T13n1 : XC := .seq (.ops [.mk (some 24) none (.k (.mov (.tmp 8))), .mk (some 6) none (.k (.mov (.tmp 24)))]) .ret
def T13n2 : XC := .seq (.ops [.mk (some 6) none (.k (.mov (.const (.int .i64 0))))]) .ret
def T13n3 : XC := .seq (.ops [.mk (some 28) none (.k (.mov (.tmp 7))), .mk (some 29) none (.k (.mov (.tmp 1))), .mk (some 30) none (.k (.div .rem .i64 (.tmp 29) (.const (.int .i64 8)))), .mk (some 31) none (.k (.mov (.tmp 2))), .mk (some 32) none (.k (.nilc (.tmp 28))), .mk (some 33) none (.k (.fld 4 (.tmp 32))), .mk (some 34) none (.k (.idxA 8 1 (.tmp 33) (.tmp 30))), .mk none none (.k (.store 1 (.tmp 34) (.tmp 31)))]) (.ref 2)
def T13n4 : XC := .seq (.ops [.mk (some 25) none (.k (.mov (.tmp 0))), .mk (some 26) none (.k (.mov (.tmp 7))), .mk (some 27) none (.call 29 [.tmp 25, .tmp 26])]) (.ref 3)
def T13n5 : XC := .seq (.seq (.ops [.mk (some 22) none (.k (.mov (.tmp 8))), .mk (some 23) none (.k (.cmp .neq .i64 (.tmp 22) (.const (.int .i64 0))))]) (.cond (.tmp 23) (.ref 1) .skip)) (.ref 4)
def T13n6 : XC := .seq (.ops [.mk (some 16) none (.k (.mov (.tmp 0))), .mk (some 17) none (.k (.mov (.tmp 1))), .mk (some 18) none (.k (.div .quo .i64 (.tmp 17) (.const (.int .i64 8)))), .mk (some 19) none (.call 28 [.tmp 16, .tmp 18, .const (.int .i64 2)]), .mk (some 15) none (.k (.mov (.tmp 19))), .mk (some 20) none (.k (.ext (.tmp 15) 0)), .mk (some 21) none (.k (.ext (.tmp 15) 1)), .mk (some 7) none (.k (.mov (.tmp 20))), .mk (some 8) none (.k (.mov (.tmp 21)))]) (.ref 5)
def T13n7 : XC := .seq (.seq (.ops [.mk (some 9) none (.k (.mov (.tmp 0))), .mk (some 10) none (.k (.isnil NK.p true (.tmp 9))), .mk (some 11) none (.k (.mov (.tmp 10))), .mk (some 12) (some (11, true)) (.k (.mov (.tmp 1))), .mk (some 13) (some (11, true)) (.k (.cmp .lss .i64 (.tmp 12) (.const (.int .i64 0)))), .mk (some 14) none (.k (.pick (.tmp 11) (.tmp 13) (.const (.bool false))))]) (.cond (.tmp 14) (.ref 0) .skip)) (.ref 6)
def T13 : Nat → XC
 | 0 => T13n0
 | 1 => T13n1
 | 2 => T13n2
 | 3 => T13n3
 | 4 => T13n4
 | 5 => T13n5
 | 6 => T13n6
 | 7 => T13n7
 | _ => .skip
theorem t13n0 : T13 0 = T13n0 := rfl
theorem t13n1 : T13 1 = T13n1 := rfl
theorem t13n2 : T13 2 = T13n2 := rfl
theorem t13n3 : T13 3 = T13n3 := rfl
theorem t13n4 : T13 4 = T13n4 := rfl
theorem t13n5 : T13 5 = T13n5 := rfl
theorem t13n6 : T13 6 = T13n6 := rfl
theorem t13n7 : T13 7 = T13n7 := rfl
def X13 : XC := .seq (.ops [.mk (some 6) none (.k (.mov (.const (.int .i64 0))))]) (.ref 7)
abbrev K13 : List Nat := [0, 1, 2, 6, 7, 8, 14, 23]
theorem n13 : Try.f13.ntmps = 35 := by kernel_rfl
theorem r13 : resT Try.f13.results.toList = some [6] := by kernel_rfl
theorem x13 : cmpF Try.prog Try.f13 = some (expand T13 9 X13) := by kernel_rfl
def T14n0 : XC := .seq (.ops [.mk (some 4) none (.k (.mov (.const (.int .u64 0)))), .mk (some 5) none (.k (.mov (.const (.int .i64 2))))]) .ret
def T14n1 : XC := .seq (.ops [.mk (some 23) none (.k (.mov (.tmp 7))), .mk (some 4) none (.k (.mov (.const (.int .u64 0)))), .mk (some 5) none (.k (.mov (.tmp 23)))]) .ret
def T14n2 : XC := .seq (.ops [.mk (some 27) none (.k (.mov (.tmp 6))), .mk (some 28) none (.k (.mov (.tmp 1))), .mk (some 29) none (.k (.div .rem .i64 (.tmp 28) (.const (.int .i64 8)))), .mk (some 30) none (.k (.nilc (.tmp 27))), .mk (some 31) none (.k (.fld 4 (.tmp 30))), .mk (some 32) none (.k (.idxA 8 1 (.tmp 31) (.tmp 29))), .mk (some 33) none (.k (.load [.int .u64] false (.tmp 32))), .mk (some 4) none (.k (.mov (.tmp 33))), .mk (some 5) none (.k (.mov (.const (.int .i64 0))))]) .ret
def T14n3 : XC := .seq (.ops [.mk (some 24) none (.k (.mov (.tmp 0))), .mk (some 25) none (.k (.mov (.tmp 6))), .mk (some 26) none (.call 29 [.tmp 24, .tmp 25])]) (.ref 2)
def T14n4 : XC := .seq (.seq (.ops [.mk (some 21) none (.k (.mov (.tmp 7))), .mk (some 22) none (.k (.cmp .neq .i64 (.tmp 21) (.const (.int .i64 0))))]) (.cond (.tmp 22) (.ref 1) .skip)) (.ref 3)
def T14n5 : XC := .seq (.ops [.mk (some 15) none (.k (.mov (.tmp 0))), .mk (some 16) none (.k (.mov (.tmp 1))), .mk (some 17) none (.k (.div .quo .i64 (.tmp 16) (.const (.int .i64 8)))), .mk (some 18) none (.call 28 [.tmp 15, .tmp 17, .const (.int .i64 0)]), .mk (some 14) none (.k (.mov (.tmp 18))), .mk (some 19) none (.k (.ext (.tmp 14) 0)), .mk (some 20) none (.k (.ext (.tmp 14) 1)), .mk (some 6) none (.k (.mov (.tmp 19))), .mk (some 7) none (.k (.mov (.tmp 20)))]) (.ref 4)
def T14n6 : XC := .seq (.seq (.ops [.mk (some 8) none (.k (.mov (.tmp 0))), .mk (some 9) none (.k (.isnil NK.p true (.tmp 8))), .mk (some 10) none (.k (.mov (.tmp 9))), .mk (some 11) (some (10, true)) (.k (.mov (.tmp 1))), .mk (some 12) (some (10, true)) (.k (.cmp .lss .i64 (.tmp 11) (.const (.int .i64 0)))), .mk (some 13) none (.k (.pick (.tmp 10) (.tmp 12) (.const (.bool false))))]) (.cond (.tmp 13) (.ref 0) .skip)) (.ref 5)
def T14 : Nat → XC
 | 0 => T14n0
 | 1 => T14n1
 | 2 => T14n2
 | 3 => T14n3
 | 4 => T14n4
 | 5 => T14n5
 | 6 => T14n6
 | _ => .skip
theorem t14n0 : T14 0 = T14n0 := rfl
theorem t14n1 : T14 1 = T14n1 := rfl
theorem t14n2 : T14 2 = T14n2 := rfl
theorem t14n3 : T14 3 = T14n3 := rfl
theorem t14n4 : T14 4 = T14n4 := rfl
theorem t14n5 : T14 5 = T14n5 := rfl
theorem t14n6 : T14 6 = T14n6 := rfl
def X14 : XC := .seq (.ops [.mk (some 4) none (.k (.mov (.const (.int .u64 0)))), .mk (some 5) none (.k (.mov (.const (.int .i64 0))))]) (.ref 6)
abbrev K14 : List Nat := [0, 1, 4, 5, 6, 7, 13, 22]
theorem n14 : Try.f14.ntmps = 34 := by kernel_rfl
theorem r14 : resT Try.f14.results.toList = some [4, 5] := by kernel_rfl
theorem x14 : cmpF Try.prog Try.f14 = some (expand T14 8 X14) := by kernel_rfl
def T15n0 : XC := .seq (.ops [.mk (some 2) none (.k (.mov (.const (.int .i64 1))))]) .ret
def T15n1 : XC := .ops [.mk (some 13) none (.k (.mov (.tmp 3))), .mk (some 14) none (.k (.mov (.tmp 3))), .mk (some 15) none (.k (.nilc (.tmp 14))), .mk (some 16) none (.k (.fld 12 (.tmp 15))), .mk (some 17) none (.k (.load [.int .u64, .int .u64, .int .u64, .int .u64, .int .u64, .int .u64, .int .u64, .int .u64] true (.tmp 16))), .mk (some 18) none (.k (.nilc (.tmp 13))), .mk (some 19) none (.k (.fld 4 (.tmp 18))), .mk none none (.k (.store 8 (.tmp 19) (.tmp 17)))]
def T15n2 : XC := .blk 1 (.seq (.ops [.mk (some 9) none (.k (.mov (.tmp 3))), .mk (some 10) none (.k (.nilc (.tmp 9))), .mk (some 11) none (.k (.fld 3 (.tmp 10))), .mk (some 12) none (.k (.load [.bool] false (.tmp 11)))]) (.cond (.tmp 12) (.ref 1) .skip))
def T15n3 : XC := .blk 0 (.rng (.tmp 7) [8] (.ops [.mk (some 3) none (.k (.mov (.tmp 8)))]) (.ref 2))
def T15n4 : XC := .seq (.ops [.mk (some 20) none (.k (.mov (.tmp 0))), .mk (some 21) none (.call 10 [.tmp 20]), .mk (some 2) none (.k (.mov (.tmp 21)))]) .ret
def T15n5 : XC := .seq (.seq (.ops [.mk (some 6) none (.k (.mov (.tmp 0))), .mk (some 7) none (.call 24 [.tmp 6])]) (.ref 3)) (.ref 4)
def T15n6 : XC := .seq (.seq (.ops [.mk (some 4) none (.k (.mov (.tmp 0))), .mk (some 5) none (.k (.isnil NK.p false (.tmp 4)))]) (.cond (.tmp 5) (.ref 0) .skip)) (.ref 5)
def T15 : Nat → XC
 | 0 => T15n0
 | 1 => T15n1
 | 2 => T15n2
 | 3 => T15n3
 | 4 => T15n4
 | 5 => T15n5
 | 6 => T15n6
 | _ => .skip
theorem t15n0 : T15 0 = T15n0 := rfl
theorem t15n1 : T15 1 = T15n1 := rfl
theorem t15n2 : T15 2 = T15n2 := rfl
theorem t15n3 : T15 3 = T15n3 := rfl
theorem t15n4 : T15 4 = T15n4 := rfl
theorem t15n5 : T15 5 = T15n5 := rfl
theorem t15n6 : T15 6 = T15n6 := rfl
def X15 : XC := .seq (.ops [.mk (some 2) none (.k (.mov (.const (.int .i64 0))))]) (.ref 6)
abbrev K15 : List Nat := [0, 2, 3, 5, 7, 8, 12]
theorem n15 : Try.f15.ntmps = 22 := by kernel_rfl
theorem r15 : resT Try.f15.results.toList = some [2] := by kernel_rfl
theorem x15 : cmpF Try.prog Try.f15 = some (expand T15 8 X15) := by kernel_rfl
def T19n0 : XC := .seq (.ops [.mk (some 16) none (.k (.build [.int .i64 0, .int .i64 0, .bool false, .bool false, .int .u64 0, .int .u64 0, .int .u64 0, .int .u64 0, .int .u64 0, .int .u64 0, .int .u64 0, .int .u64 0, .int .u64 0, .int .u64 0, .int .u64 0, .int .u64 0, .int .u64 0, .int .u64 0, .int .u64 0, .int .u64 0, .int .i64 0] [])), .mk none none (.k (.store 21 (.tmp 8) (.tmp 16))), .mk (some 9) none (.k (.mov (.const (.bool false)))), .mk (some 10) none (.k (.mov (.const (.int .i64 1))))]) .ret
def T19n1 : XC := .seq (.ops [.mk (some 28) none (.k (.build [.int .i64 0, .int .i64 0, .bool false, .bool false, .int .u64 0, .int .u64 0, .int .u64 0, .int .u64 0, .int .u64 0, .int .u64 0, .int .u64 0, .int .u64 0, .int .u64 0, .int .u64 0, .int .u64 0, .int .u64 0, .int .u64 0, .int .u64 0, .int .u64 0, .int .u64 0, .int .i64 0] [])), .mk none none (.k (.store 21 (.tmp 8) (.tmp 28))), .mk (some 9) none (.k (.mov (.const (.bool false)))), .mk (some 10) none (.k (.mov (.const (.int .i64 2))))]) .ret
def T19n2 : XC := .seq (.ops [.mk (some 34) none (.k (.build [.int .i64 0, .int .i64 0, .bool false, .bool false, .int .u64 0, .int .u64 0, .int .u64 0, .int .u64 0, .int .u64 0, .int .u64 0, .int .u64 0, .int .u64 0, .int .u64 0, .int .u64 0, .int .u64 0, .int .u64 0, .int .u64 0, .int .u64 0, .int .u64 0, .int .u64 0, .int .i64 0] [])), .mk none none (.k (.store 21 (.tmp 8) (.tmp 34))), .mk (some 9) none (.k (.mov (.const (.bool false)))), .mk (some 10) none (.k (.mov (.const (.int .i64 21))))]) .ret
def T19n3 : XC := .seq (.ops [.mk (some 30) none (.k (.mov (.tmp 0))), .mk (some 31) none (.k (.mov (.tmp 1))), .mk (some 32) none (.call 40 [.tmp 30, .tmp 31]), .mk (some 33) none (.k (.isnil NK.p true (.tmp 32))), .mk (some 29) none (.k (.mov (.tmp 33)))]) (.cond (.tmp 29) (.ref 2) .skip)
def T19n4 : XC := .seq (.ops [.mk (some 18) none (.k (.mov (.tmp 1))), .mk (some 19) none (.k (.cmp .lss .i64 (.tmp 18) (.const (.int .i64 0)))), .mk (some 20) none (.k (.mov (.tmp 19))), .mk (some 21) (some (20, false)) (.k (.mov (.tmp 2))), .mk (some 22) (some (20, false)) (.k (.cmp .neq .i64 (.tmp 21) (.const (.int .i64 1)))), .mk (some 23) (some (20, false)) (.k (.mov (.tmp 22))), .mk (some 24) (some (23, true)) (.k (.mov (.tmp 2))), .mk (some 25) (some (23, true)) (.k (.cmp .neq .i64 (.tmp 24) (.const (.int .i64 2)))), .mk (some 26) (some (20, false)) (.k (.pick (.tmp 23) (.tmp 25) (.const (.bool false)))), .mk (some 27) none (.k (.pick (.tmp 20) (.const (.bool true)) (.tmp 26))), .mk (some 17) none (.k (.mov (.tmp 27)))]) (.cond (.tmp 17) (.ref 1) (.ref 3))
def T19n5 : XC := .seq (.ops [.mk (some 40) none (.k (.build [.int .i64 0, .int .i64 0, .bool false, .bool false, .int .u64 0, .int .u64 0, .int .u64 0, .int .u64 0, .int .u64 0, .int .u64 0, .int .u64 0, .int .u64 0, .int .u64 0, .int .u64 0, .int .u64 0, .int .u64 0, .int .u64 0, .int .u64 0, .int .u64 0, .int .u64 0, .int .i64 0] [])), .mk none none (.k (.store 21 (.tmp 8) (.tmp 40))), .mk (some 9) none (.k (.mov (.const (.bool false)))), .mk (some 10) none (.k (.mov (.const (.int .i64 22))))]) .ret
def T19n6 : XC := .seq (.ops [.mk (some 53) none (.k (.load [.int .i64, .int .i64, .bool, .bool, .int .u64, .int .u64, .int .u64, .int .u64, .int .u64, .int .u64, .int .u64, .int .u64, .int .u64, .int .u64, .int .u64, .int .u64, .int .u64, .int .u64, .int .u64, .int .u64, .int .i64] true (.tmp 12))), .mk (some 54) none (.k (.fld 1 (.tmp 12))), .mk (some 55) none (.k (.load [.int .i64] false (.tmp 54))), .mk (some 56) none (.k (.cmp .neq .i64 (.tmp 55) (.const (.int .i64 0)))), .mk none none (.k (.store 21 (.tmp 8) (.tmp 53))), .mk none none (.still 55 (.load [.int .i64] false (.tmp 54))), .mk (some 9) none (.k (.mov (.tmp 56))), .mk (some 10) none (.k (.mov (.const (.int .i64 0))))]) .ret
def T19n7 : XC := .seq (.ops [.mk (some 50) none (.k (.mov (.tmp 0))), .mk (some 51) none (.k (.mov (.tmp 11))), .mk (some 52) none (.call 29 [.tmp 50, .tmp 51])]) (.ref 6)
def T19n8 : XC := .seq (.ops [.mk (some 44) none (.k (.mov (.tmp 11))), .mk (some 45) none (.k (.mov (.tmp 1))), .mk (some 46) none (.k (.mov (.tmp 2))), .mk (some 47) none (.k (.load [.int .u64, .int .u64, .int .u64, .int .u64, .int .u64, .int .u64, .int .u64, .int .u64] true (.tmp 7))), .mk (some 48) none (.k (.build [.int .i64 0, .int .i64 0, .bool false, .bool false, .int .u64 0, .int .u64 0, .int .u64 0, .int .u64 0, .int .u64 0, .int .u64 0, .int .u64 0, .int .u64 0, .int .u64 0, .int .u64 0, .int .u64 0, .int .u64 0, .int .u64 0, .int .u64 0, .int .u64 0, .int .u64 0, .int .i64 0] [(0, 1, .tmp 45), (1, 1, .tmp 46), (4, 8, .tmp 47)])), .mk (some 49) none (.k (.nilc (.tmp 44))), .mk none none (.k (.store 21 (.tmp 49) (.tmp 48)))]) (.ref 7)
def T19n9 : XC := .seq (.ops [.mk (some 41) none (.k (.mov (.tmp 11))), .mk (some 42) none (.k (.nilc (.tmp 41))), .mk (some 43) none (.k (.load [.int .i64, .int .i64, .bool, .bool, .int .u64, .int .u64, .int .u64, .int .u64, .int .u64, .int .u64, .int .u64, .int .u64, .int .u64, .int .u64, .int .u64, .int .u64, .int .u64, .int .u64, .int .u64, .int .u64, .int .i64] true (.tmp 42))), .mk (some 12) none (.k (.alloc 44 [.int .i64 0, .int .i64 0, .bool false, .bool false, .int .u64 0, .int .u64 0, .int .u64 0, .int .u64 0, .int .u64 0, .int .u64 0, .int .u64 0, .int .u64 0, .int .u64 0, .int .u64 0, .int .u64 0, .int .u64 0, .int .u64 0, .int .u64 0, .int .u64 0, .int .u64 0, .int .i64 0])), .mk none none (.k (.store 21 (.tmp 12) (.tmp 43)))]) (.ref 8)
def T19n10 : XC := .seq (.seq (.ops [.mk (some 38) none (.k (.mov (.tmp 11))), .mk (some 39) none (.k (.isnil NK.p false (.tmp 38)))]) (.cond (.tmp 39) (.ref 5) .skip)) (.ref 9)
def T19n11 : XC := .seq (.ops [.mk (some 35) none (.k (.mov (.tmp 0))), .mk (some 36) none (.k (.mov (.tmp 1))), .mk (some 37) none (.call 41 [.tmp 35, .tmp 36]), .mk (some 11) none (.k (.mov (.tmp 37)))]) (.ref 10)
def T19n12 : XC := .seq (.blk 0 (.seq (.ops [.mk (some 14) none (.k (.mov (.tmp 0))), .mk (some 15) none (.k (.isnil NK.p false (.tmp 14))), .mk (some 13) none (.k (.mov (.tmp 15)))]) (.cond (.tmp 13) (.ref 0) (.ref 4)))) (.ref 11)
def T19 : Nat → XC
 | 0 => T19n0
 | 1 => T19n1
 | 2 => T19n2
 | 3 => T19n3
 | 4 => T19n4
 | 5 => T19n5
 | 6 => T19n6
 | 7 => T19n7
 | 8 => T19n8
 | 9 => T19n9
 | 10 => T19n10
 | 11 => T19n11
 | 12 => T19n12
 | _ => .skip
theorem t19n0 : T19 0 = T19n0 := rfl
theorem t19n1 : T19 1 = T19n1 := rfl
theorem t19n2 : T19 2 = T19n2 := rfl
theorem t19n3 : T19 3 = T19n3 := rfl
theorem t19n4 : T19 4 = T19n4 := rfl
theorem t19n5 : T19 5 = T19n5 := rfl
theorem t19n6 : T19 6 = T19n6 := rfl
theorem t19n7 : T19 7 = T19n7 := rfl
theorem t19n8 : T19 8 = T19n8 := rfl
theorem t19n9 : T19 9 = T19n9 := rfl
theorem t19n10 : T19 10 = T19n10 := rfl
theorem t19n11 : T19 11 = T19n11 := rfl
theorem t19n12 : T19 12 = T19n12 := rfl
def X19 : XC := .seq (.ops [.mk (some 7) none (.k (.box 42 8 (.tmp 3))), .mk (some 8) none (.k (.alloc 44 [.int .i64 0, .int .i64 0, .bool false, .bool false, .int .u64 0, .int .u64 0, .int .u64 0, .int .u64 0, .int .u64 0, .int .u64 0, .int .u64 0, .int .u64 0, .int .u64 0, .int .u64 0, .int .u64 0, .int .u64 0, .int .u64 0, .int .u64 0, .int .u64 0, .int .u64 0, .int .i64 0])), .mk (some 9) none (.k (.mov (.const (.bool false)))), .mk (some 10) none (.k (.mov (.const (.int .i64 0))))]) (.ref 12)
abbrev K19 : List Nat := [0, 1, 2, 3, 7, 8, 9, 10, 11, 12, 13, 17, 29, 39]
theorem n19 : Try.f19.ntmps = 57 := by kernel_rfl
theorem r19 : rvOf Try.prog Try.f19.results.toList = some [RV.cell 8 21 true, RV.tmp 9, RV.tmp 10] := by kernel_rfl
theorem x19 : cmpF Try.prog Try.f19 = some (expand T19 14 X19) := by kernel_rfl
def T20n0 : XC := .seq (.ops [.mk (some 12) none (.k (.build [.int .i64 0, .int .i64 0, .bool false, .bool false, .int .u64 0, .int .u64 0, .int .u64 0, .int .u64 0, .int .u64 0, .int .u64 0, .int .u64 0, .int .u64 0, .int .u64 0, .int .u64 0, .int .u64 0, .int .u64 0, .int .u64 0, .int .u64 0, .int .u64 0, .int .u64 0, .int .i64 0] [])), .mk none none (.k (.store 21 (.tmp 4) (.tmp 12))), .mk (some 5) none (.k (.mov (.const (.bool false))))]) .ret
def T20n1 : XC := .seq (.ops [.mk (some 13) none (.k (.mov (.tmp 6))), .mk (some 14) none (.k (.nilc (.tmp 13))), .mk (some 15) none (.k (.load [.int .i64, .int .i64, .bool, .bool, .int .u64, .int .u64, .int .u64, .int .u64, .int .u64, .int .u64, .int .u64, .int .u64, .int .u64, .int .u64, .int .u64, .int .u64, .int .u64, .int .u64, .int .u64, .int .u64, .int .i64] true (.tmp 14))), .mk none none (.k (.store 21 (.tmp 4) (.tmp 15))), .mk (some 5) none (.k (.mov (.const (.bool true))))]) .ret
def T20n2 : XC := .seq (.seq (.ops [.mk (some 10) none (.k (.mov (.tmp 6))), .mk (some 11) none (.k (.isnil NK.p false (.tmp 10)))]) (.cond (.tmp 11) (.ref 0) .skip)) (.ref 1)
def T20n3 : XC := .seq (.ops [.mk (some 7) none (.k (.mov (.tmp 0))), .mk (some 8) none (.k (.mov (.tmp 1))), .mk (some 9) none (.call 40 [.tmp 7, .tmp 8]), .mk (some 6) none (.k (.mov (.tmp 9)))]) (.ref 2)
def T20 : Nat → XC
 | 0 => T20n0
 | 1 => T20n1
 | 2 => T20n2
 | 3 => T20n3
 | _ => .skip
theorem t20n0 : T20 0 = T20n0 := rfl
theorem t20n1 : T20 1 = T20n1 := rfl
theorem t20n2 : T20 2 = T20n2 := rfl
theorem t20n3 : T20 3 = T20n3 := rfl
def X20 : XC := .seq (.ops [.mk (some 4) none (.k (.alloc 44 [.int .i64 0, .int .i64 0, .bool false, .bool false, .int .u64 0, .int .u64 0, .int .u64 0, .int .u64 0, .int .u64 0, .int .u64 0, .int .u64 0, .int .u64 0, .int .u64 0, .int .u64 0, .int .u64 0, .int .u64 0, .int .u64 0, .int .u64 0, .int .u64 0, .int .u64 0, .int .i64 0])), .mk (some 5) none (.k (.mov (.const (.bool false))))]) (.ref 3)
abbrev K20 : List Nat := [0, 1, 4, 5, 6, 11]
theorem n20 : Try.f20.ntmps = 16 := by kernel_rfl
theorem r20 : rvOf Try.prog Try.f20.results.toList = some [RV.cell 4 21 true, RV.tmp 5] := by kernel_rfl
theorem x20 : cmpF Try.prog Try.f20 = some (expand T20 5 X20) := by kernel_rfl
def T21n0 : XC := .seq (.ops [.mk (some 16) none (.k (.build [.int .u64 0, .int .u64 0, .int .u64 0, .int .u64 0, .int .u64 0, .int .u64 0, .int .u64 0, .int .u64 0] [])), .mk (some 17) none (.k (.mov (.tmp 7))), .mk none none (.k (.store 8 (.tmp 4) (.tmp 16))), .mk (some 5) none (.k (.mov (.tmp 17)))]) .ret
def T21n1 : XC := .seq (.ops [.mk (some 21) none (.k (.mov (.tmp 6))), .mk (some 22) none (.k (.nilc (.tmp 21))), .mk (some 23) none (.k (.fld 4 (.tmp 22))), .mk (some 24) none (.k (.load [.int .u64, .int .u64, .int .u64, .int .u64, .int .u64, .int .u64, .int .u64, .int .u64] true (.tmp 23))), .mk none none (.k (.store 8 (.tmp 4) (.tmp 24))), .mk (some 5) none (.k (.mov (.const (.int .i64 0))))]) .ret
def T21n2 : XC := .seq (.ops [.mk (some 18) none (.k (.mov (.tmp 6))), .mk (some 19) none (.k (.nilc (.tmp 18))), .mk (some 20) none (.k (.fld 1 (.tmp 19))), .mk none none (.k (.store 1 (.tmp 20) (.const (.int .i64 1))))]) (.ref 1)
def T21n3 : XC := .seq (.seq (.ops [.mk (some 14) none (.k (.mov (.tmp 7))), .mk (some 15) none (.k (.cmp .neq .i64 (.tmp 14) (.const (.int .i64 0))))]) (.cond (.tmp 15) (.ref 0) .skip)) (.ref 2)
def T21n4 : XC := .seq (.ops [.mk (some 9) none (.k (.mov (.tmp 0))), .mk (some 10) none (.k (.mov (.tmp 1))), .mk (some 11) none (.call 28 [.tmp 9, .tmp 10, .const (.int .i64 2)]), .mk (some 8) none (.k (.mov (.tmp 11))), .mk (some 12) none (.k (.ext (.tmp 8) 0)), .mk (some 13) none (.k (.ext (.tmp 8) 1)), .mk (some 6) none (.k (.mov (.tmp 12))), .mk (some 7) none (.k (.mov (.tmp 13)))]) (.ref 3)
def T21 : Nat → XC
 | 0 => T21n0
 | 1 => T21n1
 | 2 => T21n2
 | 3 => T21n3
 | 4 => T21n4
 | _ => .skip
theorem t21n0 : T21 0 = T21n0 := rfl
theorem t21n1 : T21 1 = T21n1 := rfl
theorem t21n2 : T21 2 = T21n2 := rfl
theorem t21n3 : T21 3 = T21n3 := rfl
theorem t21n4 : T21 4 = T21n4 := rfl
def X21 : XC := .seq (.ops [.mk (some 4) none (.k (.alloc 42 [.int .u64 0, .int .u64 0, .int .u64 0, .int .u64 0, .int .u64 0, .int .u64 0, .int .u64 0, .int .u64 0])), .mk (some 5) none (.k (.mov (.const (.int .i64 0))))]) (.ref 4)
abbrev K21 : List Nat := [0, 1, 4, 5, 6, 7, 15]
theorem n21 : Try.f21.ntmps = 25 := by kernel_rfl
theorem r21 : rvOf Try.prog Try.f21.results.toList = some [RV.cell 4 8 true, RV.tmp 5] := by kernel_rfl
theorem x21 : cmpF Try.prog Try.f21 = some (expand T21 6 X21) := by kernel_rfl
def T22n0 : XC := .ops [.mk (some 17) none (.k (.mov (.tmp 7))), .mk (some 18) none (.k (.mov (.tmp 7))), .mk (some 19) none (.k (.load [.int .u64, .int .u64, .int .u64, .int .u64, .int .u64, .int .u64, .int .u64, .int .u64] true (.tmp 5))), .mk (some 20) none (.k (.nilc (.tmp 17))), .mk (some 21) none (.k (.fld 1 (.tmp 20))), .mk none none (.k (.store 1 (.tmp 21) (.const (.int .i64 2)))), .mk none none (.still 19 (.load [.int .u64, .int .u64, .int .u64, .int .u64, .int .u64, .int .u64, .int .u64, .int .u64] true (.tmp 5))), .mk (some 22) none (.k (.nilc (.tmp 18))), .mk (some 23) none (.k (.fld 4 (.tmp 22))), .mk none none (.k (.store 8 (.tmp 23) (.tmp 19)))]
def T22n1 : XC := .seq (.ops [.mk (some 24) none (.k (.mov (.tmp 8))), .mk (some 6) none (.k (.mov (.tmp 24)))]) .ret
def T22n2 : XC := .seq (.seq (.ops [.mk (some 15) none (.k (.mov (.tmp 8))), .mk (some 16) none (.k (.cmp .eql .i64 (.tmp 15) (.const (.int .i64 0))))]) (.cond (.tmp 16) (.ref 0) .skip)) (.ref 1)
def T22n3 : XC := .seq (.ops [.mk (some 10) none (.k (.mov (.tmp 0))), .mk (some 11) none (.k (.mov (.tmp 1))), .mk (some 12) none (.call 28 [.tmp 10, .tmp 11, .const (.int .i64 1)]), .mk (some 9) none (.k (.mov (.tmp 12))), .mk (some 13) none (.k (.ext (.tmp 9) 0)), .mk (some 14) none (.k (.ext (.tmp 9) 1)), .mk (some 7) none (.k (.mov (.tmp 13))), .mk (some 8) none (.k (.mov (.tmp 14)))]) (.ref 2)
def T22 : Nat → XC
 | 0 => T22n0
 | 1 => T22n1
 | 2 => T22n2
 | 3 => T22n3
 | _ => .skip
theorem t22n0 : T22 0 = T22n0 := rfl
theorem t22n1 : T22 1 = T22n1 := rfl
theorem t22n2 : T22 2 = T22n2 := rfl
theorem t22n3 : T22 3 = T22n3 := rfl
def X22 : XC := .seq (.ops [.mk (some 5) none (.k (.box 42 8 (.tmp 2))), .mk (some 6) none (.k (.mov (.const (.int .i64 0))))]) (.ref 3)
abbrev K22 : List Nat := [0, 1, 2, 5, 6, 7, 8, 16]
theorem n22 : Try.f22.ntmps = 25 := by kernel_rfl
theorem r22 : resT Try.f22.results.toList = some [6] := by kernel_rfl
theorem x22 : cmpF Try.prog Try.f22 = some (expand T22 5 X22) := by kernel_rfl
def T23n0 : XC := .seq (.ops [.mk (some 17) none (.k (.build [.int .i64 0, .int .i64 0, .bool false, .bool false, .int .u64 0, .int .u64 0, .int .u64 0, .int .u64 0, .int .u64 0, .int .u64 0, .int .u64 0, .int .u64 0, .int .u64 0, .int .u64 0, .int .u64 0, .int .u64 0, .int .u64 0, .int .u64 0, .int .u64 0, .int .u64 0, .int .i64 0] [])), .mk (some 18) none (.k (.mov (.tmp 7))), .mk none none (.k (.store 21 (.tmp 4) (.tmp 17))), .mk (some 5) none (.k (.mov (.tmp 18)))]) .ret
def T23n1 : XC := .seq (.ops [.mk (some 25) none (.k (.load [.int .i64, .int .i64, .bool, .bool, .int .u64, .int .u64, .int .u64, .int .u64, .int .u64, .int .u64, .int .u64, .int .u64, .int .u64, .int .u64, .int .u64, .int .u64, .int .u64, .int .u64, .int .u64, .int .u64, .int .i64] true (.tmp 8))), .mk none none (.k (.store 21 (.tmp 4) (.tmp 25))), .mk (some 5) none (.k (.mov (.const (.int .i64 0))))]) .ret
def T23n2 : XC := .seq (.ops [.mk (some 22) none (.k (.mov (.tmp 6))), .mk (some 23) none (.k (.build [.int .i64 0, .int .i64 0, .bool false, .bool false, .int .u64 0, .int .u64 0, .int .u64 0, .int .u64 0, .int .u64 0, .int .u64 0, .int .u64 0, .int .u64 0, .int .u64 0, .int .u64 0, .int .u64 0, .int .u64 0, .int .u64 0, .int .u64 0, .int .u64 0, .int .u64 0, .int .i64 0] [])), .mk (some 24) none (.k (.nilc (.tmp 22))), .mk none none (.k (.store 21 (.tmp 24) (.tmp 23)))]) (.ref 1)
def T23n3 : XC := .seq (.ops [.mk (some 19) none (.k (.mov (.tmp 6))), .mk (some 20) none (.k (.nilc (.tmp 19))), .mk (some 21) none (.k (.load [.int .i64, .int .i64, .bool, .bool, .int .u64, .int .u64, .int .u64, .int .u64, .int .u64, .int .u64, .int .u64, .int .u64, .int .u64, .int .u64, .int .u64, .int .u64, .int .u64, .int .u64, .int .u64, .int .u64, .int .i64] true (.tmp 20))), .mk (some 8) none (.k (.alloc 44 [.int .i64 0, .int .i64 0, .bool false, .bool false, .int .u64 0, .int .u64 0, .int .u64 0, .int .u64 0, .int .u64 0, .int .u64 0, .int .u64 0, .int .u64 0, .int .u64 0, .int .u64 0, .int .u64 0, .int .u64 0, .int .u64 0, .int .u64 0, .int .u64 0, .int .u64 0, .int .i64 0])), .mk none none (.k (.store 21 (.tmp 8) (.tmp 21)))]) (.ref 2)
def T23n4 : XC := .seq (.seq (.ops [.mk (some 15) none (.k (.mov (.tmp 7))), .mk (some 16) none (.k (.cmp .neq .i64 (.tmp 15) (.const (.int .i64 0))))]) (.cond (.tmp 16) (.ref 0) .skip)) (.ref 3)
def T23n5 : XC := .seq (.ops [.mk (some 10) none (.k (.mov (.tmp 0))), .mk (some 11) none (.k (.mov (.tmp 1))), .mk (some 12) none (.call 28 [.tmp 10, .tmp 11, .const (.int .i64 0)]), .mk (some 9) none (.k (.mov (.tmp 12))), .mk (some 13) none (.k (.ext (.tmp 9) 0)), .mk (some 14) none (.k (.ext (.tmp 9) 1)), .mk (some 6) none (.k (.mov (.tmp 13))), .mk (some 7) none (.k (.mov (.tmp 14)))]) (.ref 4)
def T23 : Nat → XC
 | 0 => T23n0
 | 1 => T23n1
 | 2 => T23n2
 | 3 => T23n3
 | 4 => T23n4
 | 5 => T23n5
 | _ => .skip
theorem t23n0 : T23 0 = T23n0 := rfl
theorem t23n1 : T23 1 = T23n1 := rfl
theorem t23n2 : T23 2 = T23n2 := rfl
theorem t23n3 : T23 3 = T23n3 := rfl
theorem t23n4 : T23 4 = T23n4 := rfl
theorem t23n5 : T23 5 = T23n5 := rfl
def X23 : XC := .seq (.ops [.mk (some 4) none (.k (.alloc 44 [.int .i64 0, .int .i64 0, .bool false, .bool false, .int .u64 0, .int .u64 0, .int .u64 0, .int .u64 0, .int .u64 0, .int .u64 0, .int .u64 0, .int .u64 0, .int .u64 0, .int .u64 0, .int .u64 0, .int .u64 0, .int .u64 0, .int .u64 0, .int .u64 0, .int .u64 0, .int .i64 0])), .mk (some 5) none (.k (.mov (.const (.int .i64 0))))]) (.ref 5)
abbrev K23 : List Nat := [0, 1, 4, 5, 6, 7, 8, 16]
theorem n23 : Try.f23.ntmps = 26 := by kernel_rfl
theorem r23 : rvOf Try.prog Try.f23.results.toList = some [RV.cell 4 21 true, RV.tmp 5] := by kernel_rfl
theorem x23 : cmpF Try.prog Try.f23 = some (expand T23 7 X23) := by kernel_rfl
def T24n0 : XC := .seq (.ops [.mk (some 3) none (.k (.mkfn (.func 42) [] [.tmp 1])), .mk (some 2) none (.k (.mov (.tmp 3)))]) .ret
def T24 : Nat → XC
 | 0 => T24n0
 | _ => .skip
theorem t24n0 : T24 0 = T24n0 := rfl
def X24 : XC := .seq (.ops [.mk (some 1) none (.k (.box 26 1 (.tmp 0))), .mk (some 2) none (.k (.mov (.const .nilFunc)))]) (.ref 0)
abbrev K24 : List Nat := [0, 1, 2]
theorem n24 : Try.f24.ntmps = 4 := by kernel_rfl
theorem r24 : resT Try.f24.results.toList = some [2] := by kernel_rfl
theorem x24 : cmpF Try.prog Try.f24 = some (expand T24 2 X24) := by kernel_rfl
def T28n0 : XC := .seq (.ops [.mk (some 6) none (.k (.mov (.const (.pointer none)))), .mk (some 7) none (.k (.mov (.const (.int .i64 1))))]) .ret
def T28n1 : XC := .seq (.ops [.mk (some 6) none (.k (.mov (.const (.pointer none)))), .mk (some 7) none (.k (.mov (.const (.int .i64 20))))]) .ret
def T28n2 : XC := .seq (.ops [.mk (some 28) none (.k (.mov (.tmp 8))), .mk (some 6) none (.k (.mov (.tmp 28))), .mk (some 7) none (.k (.mov (.const (.int .i64 0))))]) .ret
def T28n3 : XC := .seq (.seq (.ops [.mk (some 14) none (.k (.mov (.tmp 8))), .mk (some 15) none (.k (.isnil NK.p false (.tmp 14))), .mk (some 16) none (.k (.mov (.tmp 15))), .mk (some 17) (some (16, false)) (.k (.mov (.tmp 2))), .mk (some 18) (some (16, false)) (.k (.cmp .neq .i64 (.tmp 17) (.const (.int .i64 0)))), .mk (some 19) (some (16, false)) (.k (.mov (.tmp 18))), .mk (some 20) (some (19, true)) (.k (.mov (.tmp 8))), .mk (some 21) (some (19, true)) (.k (.nilc (.tmp 20))), .mk (some 22) (some (19, true)) (.k (.fld 1 (.tmp 21))), .mk (some 23) (some (19, true)) (.k (.load [.int .i64] false (.tmp 22))), .mk (some 24) (some (19, true)) (.k (.mov (.tmp 2))), .mk (some 25) (some (19, true)) (.k (.cmp .neq .i64 (.tmp 23) (.tmp 24))), .mk (some 26) (some (16, false)) (.k (.pick (.tmp 19) (.tmp 25) (.const (.bool false)))), .mk (some 27) none (.k (.pick (.tmp 16) (.const (.bool true)) (.tmp 26)))]) (.cond (.tmp 27) (.ref 1) .skip)) (.ref 2)
def T28n4 : XC := .seq (.ops [.mk (some 11) none (.k (.mov (.tmp 0))), .mk (some 12) none (.k (.mov (.tmp 1))), .mk (some 13) none (.call 40 [.tmp 11, .tmp 12]), .mk (some 8) none (.k (.mov (.tmp 13)))]) (.ref 3)
def T28n5 : XC := .seq (.seq (.ops [.mk (some 9) none (.k (.mov (.tmp 0))), .mk (some 10) none (.k (.isnil NK.p false (.tmp 9)))]) (.cond (.tmp 10) (.ref 0) .skip)) (.ref 4)
def T28 : Nat → XC
 | 0 => T28n0
 | 1 => T28n1
 | 2 => T28n2
 | 3 => T28n3
 | 4 => T28n4
 | 5 => T28n5
 | _ => .skip
theorem t28n0 : T28 0 = T28n0 := rfl
theorem t28n1 : T28 1 = T28n1 := rfl
theorem t28n2 : T28 2 = T28n2 := rfl
theorem t28n3 : T28 3 = T28n3 := rfl
theorem t28n4 : T28 4 = T28n4 := rfl
theorem t28n5 : T28 5 = T28n5 := rfl
def X28 : XC := .seq (.ops [.mk (some 6) none (.k (.mov (.const (.pointer none)))), .mk (some 7) none (.k (.mov (.const (.int .i64 0))))]) (.ref 5)
abbrev K28 : List Nat := [0, 1, 2, 6, 7, 8, 10, 27]
theorem n28 : Try.f28.ntmps = 29 := by kernel_rfl
theorem r28 : resT Try.f28.results.toList = some [6, 7] := by kernel_rfl
theorem x28 : cmpF Try.prog Try.f28 = some (expand T28 7 X28) := by kernel_rfl
def T29n0 : XC := .ops [.mk (some 11) none (.k (.mov (.tmp 1))), .mk (some 12) none (.k (.mov (.tmp 0))), .mk (some 13) none (.k (.nilc (.tmp 12))), .mk (some 14) none (.k (.fld 3 (.tmp 13))), .mk (some 15) none (.k (.load [.int .i64] false (.tmp 14))), .mk (some 16) none (.k (.nilc (.tmp 11))), .mk (some 17) none (.k (.fld 20 (.tmp 16))), .mk none none (.k (.store 1 (.tmp 17) (.tmp 15)))]
def T29 : Nat → XC
 | 0 => T29n0
 | _ => .skip
theorem t29n0 : T29 0 = T29n0 := rfl
def X29 : XC := .seq (.ops [.mk (some 4) none (.k (.mov (.tmp 0))), .mk (some 5) none (.k (.nilc (.tmp 4))), .mk (some 6) none (.k (.fld 3 (.tmp 5))), .mk (some 7) none (.k (.load [.int .i64] false (.tmp 6))), .mk (some 8) none (.k (.arith .add .i64 (.tmp 7) (.const (.int .i64 1)))), .mk (some 9) none (.k (.nilc (.tmp 4))), .mk (some 10) none (.k (.fld 3 (.tmp 9))), .mk none none (.k (.store 1 (.tmp 10) (.tmp 8)))]) (.ref 0)
abbrev K29 : List Nat := [0, 1]
theorem n29 : Try.f29.ntmps = 18 := by kernel_rfl
theorem r29 : resT Try.f29.results.toList = some [] := by kernel_rfl
theorem x29 : cmpF Try.prog Try.f29 = some (expand T29 2 X29) := by kernel_rfl
def T40n0 : XC := .seq (.ops [.mk (some 23) none (.k (.mov (.tmp 5))), .mk none none (.k (.store 1 (.tmp 4) (.tmp 23)))]) .ret
def T40n1 : XC := .blk 1 (.seq (.ops [.mk (some 10) none (.k (.mov (.tmp 5))), .mk (some 11) none (.k (.nilc (.tmp 10))), .mk (some 12) none (.k (.fld 1 (.tmp 11))), .mk (some 13) none (.k (.load [.int .i64] false (.tmp 12))), .mk (some 14) none (.k (.cmp .neq .i64 (.tmp 13) (.const (.int .i64 0)))), .mk (some 15) none (.k (.mov (.tmp 14))), .mk (some 16) (some (15, true)) (.k (.mov (.tmp 5))), .mk (some 17) (some (15, true)) (.k (.nilc (.tmp 16))), .mk (some 18) (some (15, true)) (.k (.fld 0 (.tmp 17))), .mk (some 19) (some (15, true)) (.k (.load [.int .i64] false (.tmp 18))), .mk (some 20) (some (15, true)) (.k (.load [.int .i64] false (.tmp 3))), .mk (some 21) (some (15, true)) (.k (.cmp .eql .i64 (.tmp 19) (.tmp 20))), .mk (some 22) none (.k (.pick (.tmp 15) (.tmp 21) (.const (.bool false))))]) (.cond (.tmp 22) (.ref 0) .skip))
def T40n2 : XC := .blk 0 (.rng (.tmp 8) [9] (.ops [.mk (some 5) none (.k (.mov (.tmp 9)))]) (.ref 1))
def T40n3 : XC := .seq (.ops [.mk none none (.k (.store 1 (.tmp 4) (.const (.pointer none))))]) .ret
def T40n4 : XC := .seq (.seq (.ops [.mk (some 6) none (.k (.mov (.tmp 0))), .mk (some 7) none (.k (.load [.int .i64] false (.tmp 3))), .mk (some 8) none (.call 49 [.tmp 6, .tmp 7])]) (.ref 2)) (.ref 3)
def T40 : Nat → XC
 | 0 => T40n0
 | 1 => T40n1
 | 2 => T40n2
 | 3 => T40n3
 | 4 => T40n4
 | _ => .skip
theorem t40n0 : T40 0 = T40n0 := rfl
theorem t40n1 : T40 1 = T40n1 := rfl
theorem t40n2 : T40 2 = T40n2 := rfl
theorem t40n3 : T40 3 = T40n3 := rfl
theorem t40n4 : T40 4 = T40n4 := rfl
def X40 : XC := .seq (.ops [.mk (some 3) none (.k (.box 3 1 (.tmp 1))), .mk (some 4) none (.k (.alloc 70 [.pointer none]))]) (.ref 4)
abbrev K40 : List Nat := [0, 1, 3, 4, 5, 8, 9, 22]
theorem n40 : Try.f40.ntmps = 24 := by kernel_rfl
theorem r40 : rvOf Try.prog Try.f40.results.toList = some [RV.cell 4 1 false] := by kernel_rfl
theorem x40 : cmpF Try.prog Try.f40 = some (expand T40 6 X40) := by kernel_rfl
def T41n0 : XC := .seq (.ops [.mk (some 16) none (.k (.mov (.tmp 6))), .mk none none (.k (.store 1 (.tmp 4) (.tmp 16)))]) .ret
def T41n1 : XC := .cond (.tmp 39) (.ops [.mk (some 40) none (.k (.mov (.tmp 6))), .mk none none (.k (.store 1 (.tmp 5) (.tmp 40)))]) .skip
def T41n2 : XC := .seq (.ops [.mk (some 27) none (.k (.load [.ptr] false (.tmp 5))), .mk (some 28) none (.k (.isnil NK.p false (.tmp 27))), .mk (some 29) none (.k (.mov (.tmp 28))), .mk (some 30) (some (29, false)) (.k (.mov (.tmp 6))), .mk (some 31) (some (29, false)) (.k (.nilc (.tmp 30))), .mk (some 32) (some (29, false)) (.k (.fld 20 (.tmp 31))), .mk (some 33) (some (29, false)) (.k (.load [.int .i64] false (.tmp 32))), .mk (some 34) (some (29, false)) (.k (.load [.ptr] false (.tmp 5))), .mk (some 35) (some (29, false)) (.k (.nilc (.tmp 34))), .mk (some 36) (some (29, false)) (.k (.fld 20 (.tmp 35))), .mk (some 37) (some (29, false)) (.k (.load [.int .i64] false (.tmp 36))), .mk (some 38) (some (29, false)) (.k (.cmp .lss .i64 (.tmp 33) (.tmp 37))), .mk (some 39) none (.k (.pick (.tmp 29) (.const (.bool true)) (.tmp 38)))]) (.ref 1)
def T41n3 : XC := .seq (.seq (.ops [.mk (some 17) none (.k (.mov (.tmp 6))), .mk (some 18) none (.k (.nilc (.tmp 17))), .mk (some 19) none (.k (.fld 2 (.tmp 18))), .mk (some 20) none (.k (.load [.bool] false (.tmp 19))), .mk (some 21) none (.k (.mov (.tmp 20))), .mk (some 22) (some (21, false)) (.k (.mov (.tmp 6))), .mk (some 23) (some (21, false)) (.k (.nilc (.tmp 22))), .mk (some 24) (some (21, false)) (.k (.fld 3 (.tmp 23))), .mk (some 25) (some (21, false)) (.k (.load [.bool] false (.tmp 24))), .mk (some 26) none (.k (.pick (.tmp 21) (.const (.bool true)) (.tmp 25)))]) (.cond (.tmp 26) (.exit 1) .skip)) (.ref 2)
def T41n4 : XC := .blk 1 (.seq (.seq (.ops [.mk (some 11) none (.k (.mov (.tmp 6))), .mk (some 12) none (.k (.nilc (.tmp 11))), .mk (some 13) none (.k (.fld 1 (.tmp 12))), .mk (some 14) none (.k (.load [.int .i64] false (.tmp 13))), .mk (some 15) none (.k (.cmp .eql .i64 (.tmp 14) (.const (.int .i64 0))))]) (.cond (.tmp 15) (.ref 0) .skip)) (.ref 3))
def T41n5 : XC := .blk 0 (.rng (.tmp 9) [10] (.ops [.mk (some 6) none (.k (.mov (.tmp 10)))]) (.ref 4))
def T41n6 : XC := .seq (.ops [.mk (some 41) none (.k (.load [.ptr] false (.tmp 5))), .mk none none (.k (.store 1 (.tmp 4) (.tmp 41)))]) .ret
def T41n7 : XC := .seq (.seq (.ops [.mk (some 7) none (.k (.mov (.tmp 0))), .mk (some 8) none (.k (.mov (.tmp 1))), .mk (some 9) none (.call 49 [.tmp 7, .tmp 8])]) (.ref 5)) (.ref 6)
def T41n8 : XC := .scp (.seq (.ops [.mk (some 5) none (.k (.alloc 70 [.pointer none]))]) (.seq (.lab) (.ref 7)))
def T41 : Nat → XC
 | 0 => T41n0
 | 1 => T41n1
 | 2 => T41n2
 | 3 => T41n3
 | 4 => T41n4
 | 5 => T41n5
 | 6 => T41n6
 | 7 => T41n7
 | 8 => T41n8
 | _ => .skip
theorem t41n0 : T41 0 = T41n0 := rfl
theorem t41n1 : T41 1 = T41n1 := rfl
theorem t41n2 : T41 2 = T41n2 := rfl
theorem t41n3 : T41 3 = T41n3 := rfl
theorem t41n4 : T41 4 = T41n4 := rfl
theorem t41n5 : T41 5 = T41n5 := rfl
theorem t41n6 : T41 6 = T41n6 := rfl
theorem t41n7 : T41 7 = T41n7 := rfl
theorem t41n8 : T41 8 = T41n8 := rfl
def X41 : XC := .seq (.ops [.mk (some 4) none (.k (.alloc 70 [.pointer none]))]) (.ref 8)
abbrev K41 : List Nat := [0, 1, 4, 5, 6, 9, 10, 15, 26, 39]
theorem n41 : Try.f41.ntmps = 42 := by kernel_rfl
theorem r41 : rvOf Try.prog Try.f41.results.toList = some [RV.cell 4 1 false] := by kernel_rfl
theorem x41 : cmpF Try.prog Try.f41 = some (expand T41 10 X41) := by kernel_rfl
def T42n0 : XC := .seq (.ops [.mk (some 23) none (.k (.mov (.tmp 0))), .mk (some 24) none (.k (.load [.ptr] false (.tmp 1))), .mk (some 25) none (.k (.nilc (.tmp 24))), .mk (some 26) none (.k (.fld 2 (.tmp 25))), .mk (some 27) none (.k (.load [.slc] false (.tmp 26))), .mk (some 28) none (.k (.mov (.tmp 3))), .mk (some 29) none (.k (.idx 21 (.tmp 27) (.tmp 28))), .mk (some 30) none (.callv (.tmp 23) [.tmp 29]), .mk (some 31) none (.k (.not (.tmp 30)))]) (.cond (.tmp 31) .ret .skip)
def T42n1 : XC := .seq (.seq (.ops [.mk (some 14) none (.k (.load [.ptr] false (.tmp 1))), .mk (some 15) none (.k (.nilc (.tmp 14))), .mk (some 16) none (.k (.fld 2 (.tmp 15))), .mk (some 17) none (.k (.load [.slc] false (.tmp 16))), .mk (some 18) none (.k (.mov (.tmp 3))), .mk (some 19) none (.k (.idx 21 (.tmp 17) (.tmp 18))), .mk (some 20) none (.k (.fld 1 (.tmp 19))), .mk (some 21) none (.k (.load [.int .i64] false (.tmp 20))), .mk (some 22) none (.k (.cmp .eql .i64 (.tmp 21) (.const (.int .i64 0))))]) (.cond (.tmp 22) (.exit 1) .skip)) (.ref 0)
def T42n2 : XC := .seq (.blk 1 (.seq (.ops [.mk (some 13) none (.k (.mov (.tmp 11))), .mk (some 3) none (.k (.mov (.tmp 13)))]) (.ref 1))) (.ops [.mk (some 32) none (.k (.arith .add .i64 (.tmp 11) (.const (.int .i64 1)))), .mk (some 11) none (.k (.mov (.tmp 32)))])
def T42n3 : XC := .seq (.cond (.tmp 12) .skip (.exit 0)) (.ref 2)
def T42n4 : XC := .seq (.ops [.mk (some 12) none (.k (.cmp .lss .i64 (.tmp 11) (.tmp 10)))]) (.ref 3)
def T42n5 : XC := .seq (.ops [.mk (some 6) none (.k (.load [.ptr] false (.tmp 1))), .mk (some 7) none (.k (.nilc (.tmp 6))), .mk (some 8) none (.k (.fld 2 (.tmp 7))), .mk (some 9) none (.k (.load [.slc] false (.tmp 8))), .mk (some 10) none (.k (.lenS (.tmp 9))), .mk (some 11) none (.k (.mov (.const (.int .i64 0))))]) (.blk 0 (.loop (.ref 4)))
def T42 : Nat → XC
 | 0 => T42n0
 | 1 => T42n1
 | 2 => T42n2
 | 3 => T42n3
 | 4 => T42n4
 | 5 => T42n5
 | _ => .skip
theorem t42n0 : T42 0 = T42n0 := rfl
theorem t42n1 : T42 1 = T42n1 := rfl
theorem t42n2 : T42 2 = T42n2 := rfl
theorem t42n3 : T42 3 = T42n3 := rfl
theorem t42n4 : T42 4 = T42n4 := rfl
theorem t42n5 : T42 5 = T42n5 := rfl
def X42 : XC := .scp (.seq (.seq (.ops [.mk (some 4) none (.k (.load [.ptr] false (.tmp 1))), .mk (some 5) none (.k (.isnil NK.p false (.tmp 4)))]) (.cond (.tmp 5) .ret .skip)) (.seq (.lab) (.ref 5)))
abbrev K42 : List Nat := [0, 1, 3, 5, 10, 11, 12, 22, 31]
theorem n42 : Try.f42.ntmps = 33 := by kernel_rfl
theorem r42 : resT Try.f42.results.toList = some [] := by kernel_rfl
theorem x42 : cmpF Try.prog Try.f42 = some (expand T42 7 X42) := by kernel_rfl
def T49n0 : XC := .seq (.ops [.mk (some 5) none (.k (.mkfn (.func 60) [] [.tmp 2, .tmp 3])), .mk (some 4) none (.k (.mov (.tmp 5)))]) .ret
def T49 : Nat → XC
 | 0 => T49n0
 | _ => .skip
theorem t49n0 : T49 0 = T49n0 := rfl
def X49 : XC := .seq (.ops [.mk (some 2) none (.k (.box 26 1 (.tmp 0))), .mk (some 3) none (.k (.box 3 1 (.tmp 1))), .mk (some 4) none (.k (.mov (.const .nilFunc)))]) (.ref 0)
abbrev K49 : List Nat := [0, 1, 2, 3, 4]
theorem n49 : Try.f49.ntmps = 6 := by kernel_rfl
theorem r49 : resT Try.f49.results.toList = some [4] := by kernel_rfl
theorem x49 : cmpF Try.prog Try.f49 = some (expand T49 2 X49) := by kernel_rfl
def T60n0 : XC := .seq (.ops [.mk (some 30) none (.k (.mov (.tmp 0))), .mk (some 31) none (.k (.load [.ptr] false (.tmp 1))), .mk (some 32) none (.k (.nilc (.tmp 31))), .mk (some 33) none (.k (.fld 2 (.tmp 32))), .mk (some 34) none (.k (.load [.slc] false (.tmp 33))), .mk (some 35) none (.k (.mov (.tmp 4))), .mk (some 36) none (.k (.mov (.tmp 5))), .mk (some 37) none (.k (.arith .add .i64 (.tmp 35) (.tmp 36))), .mk (some 38) none (.k (.idx 21 (.tmp 34) (.tmp 37))), .mk (some 39) none (.callv (.tmp 30) [.tmp 38]), .mk (some 40) none (.k (.not (.tmp 39)))]) (.cond (.tmp 40) .ret .skip)
def T60n1 : XC := .seq (.blk 1 (.seq (.ops [.mk (some 29) none (.k (.mov (.tmp 27))), .mk (some 5) none (.k (.mov (.tmp 29)))]) (.ref 0))) (.ops [.mk (some 41) none (.k (.arith .add .i64 (.tmp 27) (.const (.int .i64 1)))), .mk (some 27) none (.k (.mov (.tmp 41)))])
def T60n2 : XC := .seq (.cond (.tmp 28) .skip (.exit 0)) (.ref 1)
def T60n3 : XC := .seq (.ops [.mk (some 28) none (.k (.cmp .lss .i64 (.tmp 27) (.tmp 26)))]) (.ref 2)
def T60n4 : XC := .seq (.ops [.mk (some 23) none (.k (.load [.ptr] false (.tmp 1))), .mk (some 24) none (.k (.nilc (.tmp 23))), .mk (some 25) none (.k (.fld 1 (.tmp 24))), .mk (some 26) none (.k (.load [.int .i64] false (.tmp 25))), .mk (some 27) none (.k (.mov (.const (.int .i64 0))))]) (.blk 0 (.loop (.ref 3)))
def T60n5 : XC := .seq (.ops [.mk (some 12) none (.k (.load [.int .i64] false (.tmp 2))), .mk (some 13) none (.k (.load [.ptr] false (.tmp 1))), .mk (some 14) none (.k (.nilc (.tmp 13))), .mk (some 15) none (.k (.fld 0 (.tmp 14))), .mk (some 16) none (.k (.load [.int .i64] false (.tmp 15))), .mk (some 17) none (.k (.div .rem .i64 (.tmp 12) (.tmp 16))), .mk (some 18) none (.k (.load [.ptr] false (.tmp 1))), .mk (some 19) none (.k (.nilc (.tmp 18))), .mk (some 20) none (.k (.fld 1 (.tmp 19))), .mk (some 21) none (.k (.load [.int .i64] false (.tmp 20))), .mk (some 22) none (.k (.arith .mul .i64 (.tmp 17) (.tmp 21))), .mk (some 4) none (.k (.mov (.tmp 22)))]) (.ref 4)
def T60 : Nat → XC
 | 0 => T60n0
 | 1 => T60n1
 | 2 => T60n2
 | 3 => T60n3
 | 4 => T60n4
 | 5 => T60n5
 | _ => .skip
theorem t60n0 : T60 0 = T60n0 := rfl
theorem t60n1 : T60 1 = T60n1 := rfl
theorem t60n2 : T60 2 = T60n2 := rfl
theorem t60n3 : T60 3 = T60n3 := rfl
theorem t60n4 : T60 4 = T60n4 := rfl
theorem t60n5 : T60 5 = T60n5 := rfl
def X60 : XC := .seq (.seq (.ops [.mk (some 6) none (.k (.load [.ptr] false (.tmp 1))), .mk (some 7) none (.k (.isnil NK.p false (.tmp 6))), .mk (some 8) none (.k (.mov (.tmp 7))), .mk (some 9) (some (8, false)) (.k (.load [.int .i64] false (.tmp 2))), .mk (some 10) (some (8, false)) (.k (.cmp .lss .i64 (.tmp 9) (.const (.int .i64 0)))), .mk (some 11) none (.k (.pick (.tmp 8) (.const (.bool true)) (.tmp 10)))]) (.cond (.tmp 11) .ret .skip)) (.ref 5)
abbrev K60 : List Nat := [0, 1, 2, 4, 5, 11, 26, 27, 28, 40]
theorem n60 : Try.f60.ntmps = 42 := by kernel_rfl
theorem r60 : resT Try.f60.results.toList = some [] := by kernel_rfl
theorem x60 : cmpF Try.prog Try.f60 = some (expand T60 7 X60) := by kernel_rfl
end Go.Proofs.Ytimmobbginjkfaa
