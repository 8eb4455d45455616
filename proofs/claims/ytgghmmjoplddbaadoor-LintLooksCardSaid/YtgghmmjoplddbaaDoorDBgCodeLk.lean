/- Printed by program: the small code of functions, and that it is theirs. -/
import Derived.Test.YtgghmmjoplddbaaDoorSxStill
import Derived.Test.YtgghmmjoplddbaaDoorProg
import Derived.KernelRfl
set_option linter.unusedSimpArgs false
set_option linter.unusedVariables false
set_option linter.unnecessarySimpa false
namespace Go.Proofs.YtgghmmjoplddbaaDoor
open Go Go.Sx
set_option maxRecDepth 100000
def T4n0 : XC := .seq (.ops [.mk (some 2) none (.k (.mov (.const (.bool true))))]) .ret
def T4n1 : XC := .seq (.ops [.mk (some 2) none (.k (.mov (.const (.bool false))))]) .ret
def T4n2 : XC := .seq (.ops [.mk (some 2) none (.k (.mov (.const (.bool false))))]) .ret
def T4n3 : XC := .ops [.mk (some 63) none (.k (.mov (.tmp 3))), .mk (some 64) none (.k (.mov (.tmp 8))), .mk (some 65) none (.k (.idx 5 (.tmp 63) (.tmp 64))), .mk (some 66) none (.k (.fld 0 (.tmp 65))), .mk none none (.k (.store 1 (.tmp 66) (.const (.int .i64 1))))]
def T4n4 : XC := .seq (.seq (.ops [.mk (some 54) none (.k (.mov (.tmp 3))), .mk (some 55) none (.k (.mov (.tmp 8))), .mk (some 56) none (.k (.idx 5 (.tmp 54) (.tmp 55))), .mk (some 57) none (.k (.load [.int .i64, .int .i64, .int .i64, .int .i64, .int .i64] true (.tmp 56))), .mk (some 58) none (.k (.mov (.tmp 0))), .mk (some 59) none (.k (.mov (.tmp 8))), .mk (some 60) none (.k (.idx 5 (.tmp 58) (.tmp 59))), .mk (some 61) none (.k (.load [.int .i64, .int .i64, .int .i64, .int .i64, .int .i64] true (.tmp 60))), .mk (some 62) none (.k (.eqa true [.int .i64, .int .i64, .int .i64, .int .i64, .int .i64] (.tmp 57) (.tmp 61)))]) (.cond (.tmp 62) (.ref 2) .skip)) (.ref 3)
def T4n5 : XC := .seq (.blk 1 (.seq (.ops [.mk (some 53) none (.k (.mov (.tmp 51))), .mk (some 8) none (.k (.mov (.tmp 53)))]) (.ref 4))) (.ops [.mk (some 67) none (.k (.arith .add .i64 (.tmp 51) (.const (.int .i64 1)))), .mk (some 51) none (.k (.mov (.tmp 67)))])
def T4n6 : XC := .seq (.cond (.tmp 52) .skip (.exit 0)) (.ref 5)
def T4n7 : XC := .seq (.ops [.mk (some 52) none (.k (.cmp .lss .i64 (.tmp 51) (.tmp 50)))]) (.ref 6)
def T4n8 : XC := .seq (.ops [.mk (some 68) none (.k (.mov (.tmp 4))), .mk (some 69) none (.k (.mov (.tmp 6))), .mk (some 70) none (.call 13 [.tmp 68, .tmp 69]), .mk (some 2) none (.k (.mov (.tmp 70)))]) .ret
def T4n9 : XC := .seq (.seq (.ops [.mk (some 49) none (.k (.mov (.tmp 0))), .mk (some 50) none (.k (.lenS (.tmp 49))), .mk (some 51) none (.k (.mov (.const (.int .i64 0))))]) (.blk 0 (.loop (.ref 7)))) (.ref 8)
def T4n10 : XC := .seq (.seq (.ops [.mk (some 31) none (.k (.mov (.tmp 5))), .mk (some 32) none (.k (.mov (.tmp 7))), .mk (some 33) none (.k (.cmp .neq .i64 (.tmp 31) (.tmp 32))), .mk (some 34) none (.k (.mov (.tmp 33))), .mk (some 35) (some (34, false)) (.k (.mov (.tmp 4))), .mk (some 36) (some (34, false)) (.k (.mov (.tmp 6))), .mk (some 37) (some (34, false)) (.call 13 [.tmp 35, .tmp 36]), .mk (some 38) (some (34, false)) (.k (.not (.tmp 37))), .mk (some 39) none (.k (.pick (.tmp 34) (.const (.bool true)) (.tmp 38))), .mk (some 40) none (.k (.mov (.tmp 39))), .mk (some 41) (some (40, false)) (.k (.mov (.tmp 3))), .mk (some 42) (some (40, false)) (.k (.mov (.tmp 0))), .mk (some 43) (some (40, false)) (.k (.lenS (.tmp 42))), .mk (some 44) (some (40, false)) (.k (.idx 5 (.tmp 41) (.tmp 43))), .mk (some 45) (some (40, false)) (.k (.fld 0 (.tmp 44))), .mk (some 46) (some (40, false)) (.k (.load [.int .i64] false (.tmp 45))), .mk (some 47) (some (40, false)) (.k (.cmp .neq .i64 (.tmp 46) (.const (.int .i64 77)))), .mk (some 48) none (.k (.pick (.tmp 40) (.const (.bool true)) (.tmp 47)))]) (.cond (.tmp 48) (.ref 1) .skip)) (.ref 9)
def T4n11 : XC := .seq (.ops [.mk (some 27) none (.k (.mov (.tmp 0))), .mk (some 28) none (.call 12 [.tmp 27]), .mk (some 26) none (.k (.mov (.tmp 28))), .mk (some 29) none (.k (.ext (.tmp 26) 0)), .mk (some 30) none (.k (.ext (.tmp 26) 1)), .mk (some 6) none (.k (.mov (.tmp 29))), .mk (some 7) none (.k (.mov (.tmp 30)))]) (.ref 10)
def T4n12 : XC := .seq (.ops [.mk (some 19) none (.k (.mov (.tmp 3))), .mk (some 20) none (.k (.mov (.tmp 0))), .mk (some 21) none (.k (.lenS (.tmp 20))), .mk (some 22) none (.k (.sub 5 (.tmp 19) none (some (.tmp 21)))), .mk (some 23) none (.call 11 [.tmp 22]), .mk (some 18) none (.k (.mov (.tmp 23))), .mk (some 24) none (.k (.ext (.tmp 18) 0)), .mk (some 25) none (.k (.ext (.tmp 18) 1)), .mk (some 4) none (.k (.mov (.tmp 24))), .mk (some 5) none (.k (.mov (.tmp 25)))]) (.ref 11)
def T4n13 : XC := .seq (.ops [.mk (some 12) none (.k (.mov (.tmp 3))), .mk (some 13) none (.k (.mov (.tmp 0))), .mk (some 14) none (.k (.app 37 5 40 (.tmp 12) (.tmp 13))), .mk (some 15) none (.k (.build [.int .i64 0, .int .i64 0, .int .i64 0, .int .i64 0, .int .i64 0] [(0, 1, .const (.int .i64 77))])), .mk (some 16) none (.k (.buildS 37 1 5 [.int .i64 0, .int .i64 0, .int .i64 0, .int .i64 0, .int .i64 0] [(0, .tmp 15)])), .mk (some 17) none (.k (.app 37 5 40 (.tmp 14) (.tmp 16))), .mk (some 3) none (.k (.mov (.tmp 17)))]) (.ref 12)
def T4n14 : XC := .seq (.ops [.mk (some 3) none (.k (.mov (.const (.slice none 0 0))))]) (.ref 13)
def T4n15 : XC := .seq (.seq (.ops [.mk (some 9) none (.k (.mov (.tmp 0))), .mk (some 10) none (.k (.lenS (.tmp 9))), .mk (some 11) none (.k (.cmp .gtr .i64 (.tmp 10) (.const (.int .i64 1100))))]) (.cond (.tmp 11) (.ref 0) .skip)) (.ref 14)
def T4 : Nat → XC
 | 0 => T4n0
 | 1 => T4n1
 | 2 => T4n2
 | 3 => T4n3
 | 4 => T4n4
 | 5 => T4n5
 | 6 => T4n6
 | 7 => T4n7
 | 8 => T4n8
 | 9 => T4n9
 | 10 => T4n10
 | 11 => T4n11
 | 12 => T4n12
 | 13 => T4n13
 | 14 => T4n14
 | 15 => T4n15
 | _ => .skip
theorem t4n0 : T4 0 = T4n0 := rfl
theorem t4n1 : T4 1 = T4n1 := rfl
theorem t4n2 : T4 2 = T4n2 := rfl
theorem t4n3 : T4 3 = T4n3 := rfl
theorem t4n4 : T4 4 = T4n4 := rfl
theorem t4n5 : T4 5 = T4n5 := rfl
theorem t4n6 : T4 6 = T4n6 := rfl
theorem t4n7 : T4 7 = T4n7 := rfl
theorem t4n8 : T4 8 = T4n8 := rfl
theorem t4n9 : T4 9 = T4n9 := rfl
theorem t4n10 : T4 10 = T4n10 := rfl
theorem t4n11 : T4 11 = T4n11 := rfl
theorem t4n12 : T4 12 = T4n12 := rfl
theorem t4n13 : T4 13 = T4n13 := rfl
theorem t4n14 : T4 14 = T4n14 := rfl
theorem t4n15 : T4 15 = T4n15 := rfl
def X4 : XC := .seq (.ops [.mk (some 2) none (.k (.mov (.const (.bool false))))]) (.ref 15)
abbrev K4 : List Nat := [0, 2, 3, 4, 5, 6, 7, 8, 11, 48, 50, 51, 52, 62]
theorem n4 : Tryd.f4.ntmps = 71 := by kernel_rfl
theorem r4 : resT Tryd.f4.results.toList = some [2] := by kernel_rfl
theorem x4 : cmpF Tryd.prog Tryd.f4 = some (expand T4 17 X4) := by kernel_rfl
def T13n0 : XC := .seq (.ops [.mk (some 4) none (.k (.mov (.const (.bool false))))]) .ret
def T13n1 : XC := .seq (.ops [.mk (some 4) none (.k (.mov (.const (.bool false))))]) .ret
def T13n2 : XC := .ops [.mk (some 15) none (.k (.mov (.tmp 5))), .mk (some 16) none (.k (.arith .add .i64 (.tmp 15) (.const (.int .i64 1)))), .mk (some 5) none (.k (.mov (.tmp 16)))]
def T13n3 : XC := .seq (.blk 1 (.seq (.ops [.mk (some 17) none (.k (.mov (.tmp 0))), .mk (some 18) none (.k (.mov (.tmp 5))), .mk (some 19) none (.k (.idx 2 (.tmp 17) (.tmp 18))), .mk (some 20) none (.k (.load [.int .i64, .int .i64] true (.tmp 19))), .mk (some 21) none (.k (.mov (.tmp 1))), .mk (some 22) none (.k (.mov (.tmp 5))), .mk (some 23) none (.k (.idx 2 (.tmp 21) (.tmp 22))), .mk (some 24) none (.k (.load [.int .i64, .int .i64] true (.tmp 23))), .mk (some 25) none (.k (.eqa true [.int .i64, .int .i64] (.tmp 20) (.tmp 24)))]) (.cond (.tmp 25) (.ref 1) .skip))) (.ref 2)
def T13n4 : XC := .seq (.seq (.ops [.mk (some 11) none (.k (.mov (.tmp 5))), .mk (some 12) none (.k (.mov (.tmp 0))), .mk (some 13) none (.k (.lenS (.tmp 12))), .mk (some 14) none (.k (.cmp .lss .i64 (.tmp 11) (.tmp 13)))]) (.cond (.tmp 14) .skip (.exit 0))) (.ref 3)
def T13n5 : XC := .seq (.ops [.mk (some 4) none (.k (.mov (.const (.bool true))))]) .ret
def T13n6 : XC := .seq (.seq (.ops [.mk (some 5) none (.k (.mov (.const (.int .i64 0))))]) (.blk 0 (.loop (.ref 4)))) (.ref 5)
def T13n7 : XC := .seq (.seq (.ops [.mk (some 6) none (.k (.mov (.tmp 0))), .mk (some 7) none (.k (.lenS (.tmp 6))), .mk (some 8) none (.k (.mov (.tmp 1))), .mk (some 9) none (.k (.lenS (.tmp 8))), .mk (some 10) none (.k (.cmp .neq .i64 (.tmp 7) (.tmp 9)))]) (.cond (.tmp 10) (.ref 0) .skip)) (.ref 6)
def T13 : Nat → XC
 | 0 => T13n0
 | 1 => T13n1
 | 2 => T13n2
 | 3 => T13n3
 | 4 => T13n4
 | 5 => T13n5
 | 6 => T13n6
 | 7 => T13n7
 | _ => .skip
theorem t13n0 : T13 0 = T13n0 := rfl
theorem t13n1 : T13 1 = T13n1 := rfl
theorem t13n2 : T13 2 = T13n2 := rfl
theorem t13n3 : T13 3 = T13n3 := rfl
theorem t13n4 : T13 4 = T13n4 := rfl
theorem t13n5 : T13 5 = T13n5 := rfl
theorem t13n6 : T13 6 = T13n6 := rfl
theorem t13n7 : T13 7 = T13n7 := rfl
def X13 : XC := .seq (.ops [.mk (some 4) none (.k (.mov (.const (.bool false))))]) (.ref 7)
abbrev K13 : List Nat := [0, 1, 4, 5, 10, 14, 25]
theorem n13 : Tryd.f13.ntmps = 26 := by kernel_rfl
theorem r13 : resT Tryd.f13.results.toList = some [4] := by kernel_rfl
theorem x13 : cmpF Tryd.prog Tryd.f13 = some (expand T13 9 X13) := by kernel_rfl
end Go.Proofs.YtgghmmjoplddbaaDoor
