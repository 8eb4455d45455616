/- Printed by program: the small code of functions, and that it is theirs. -/
import Derived.Test.YtgghmmjoplddbaaDoorSxStill
import Derived.Test.YtgghmmjoplddbaaDoorProg
import Derived.KernelRfl
set_option linter.unusedSimpArgs false
set_option linter.unusedVariables false
set_option linter.unnecessarySimpa false
namespace Go.Proofs.YtgghmmjoplddbaaDoor
open Go Go.Sx
set_option maxRecDepth 100000
def T3n0 : XC := .seq (.ops [.mk (some 24) none (.k (.mov (.tmp 6))), .mk (some 25) none (.k (.cmp .eql .i64 (.tmp 24) (.const (.int .i64 2)))), .mk (some 26) none (.k (.mov (.tmp 0))), .mk (some 27) none (.k (.lenS (.tmp 26))), .mk (some 28) none (.k (.cmp .gtr .i64 (.tmp 27) (.const (.int .i64 1024)))), .mk (some 29) none (.k (.eqb false (.tmp 25) (.tmp 28))), .mk (some 4) none (.k (.mov (.tmp 29)))]) .ret
def T3n1 : XC := .seq (.ops [.mk (some 20) none (.k (.mov (.tmp 0))), .mk (some 21) none (.call 6 [.tmp 20]), .mk (some 19) none (.k (.mov (.tmp 21))), .mk (some 22) none (.k (.ext (.tmp 19) 0)), .mk (some 23) none (.k (.ext (.tmp 19) 1)), .mk (some 5) none (.k (.mov (.tmp 22))), .mk (some 6) none (.k (.mov (.tmp 23)))]) (.ref 0)
def T3n2 : XC := .cond (.tmp 67) (.ops [.mk (some 68) none (.k (.mov (.tmp 14))), .mk (some 13) none (.k (.mov (.tmp 68)))]) .skip
def T3n3 : XC := .ops [.mk (some 50) none (.k (.mov (.tmp 14))), .mk (some 51) none (.k (.arith .add .i64 (.tmp 50) (.const (.int .i64 1)))), .mk (some 14) none (.k (.mov (.tmp 51)))]
def T3n4 : XC := .seq (.blk 1 (.seq (.ops [.mk (some 52) none (.k (.mov (.tmp 1))), .mk (some 53) none (.k (.mov (.tmp 10))), .mk (some 54) none (.k (.mov (.tmp 14))), .mk (some 55) none (.k (.idx 3 (.tmp 53) (.tmp 54))), .mk (some 56) none (.k (.fld 0 (.tmp 55))), .mk (some 57) none (.k (.load [.int .i64] false (.tmp 56))), .mk (some 58) none (.k (.cmp .geq .i64 (.tmp 52) (.tmp 57))), .mk (some 59) none (.k (.mov (.tmp 58))), .mk (some 60) (some (59, true)) (.k (.mov (.tmp 1))), .mk (some 61) (some (59, true)) (.k (.mov (.tmp 10))), .mk (some 62) (some (59, true)) (.k (.mov (.tmp 14))), .mk (some 63) (some (59, true)) (.k (.idx 3 (.tmp 61) (.tmp 62))), .mk (some 64) (some (59, true)) (.k (.fld 1 (.tmp 63))), .mk (some 65) (some (59, true)) (.k (.load [.int .i64] false (.tmp 64))), .mk (some 66) (some (59, true)) (.k (.cmp .lss .i64 (.tmp 60) (.tmp 65))), .mk (some 67) none (.k (.pick (.tmp 59) (.tmp 66) (.const (.bool false))))]) (.ref 2))) (.ref 3)
def T3n5 : XC := .seq (.seq (.ops [.mk (some 46) none (.k (.mov (.tmp 14))), .mk (some 47) none (.k (.mov (.tmp 10))), .mk (some 48) none (.k (.lenS (.tmp 47))), .mk (some 49) none (.k (.cmp .lss .i64 (.tmp 46) (.tmp 48)))]) (.cond (.tmp 49) .skip (.exit 0))) (.ref 4)
def T3n6 : XC := .seq (.ops [.mk (some 77) none (.k (.mov (.tmp 9))), .mk (some 78) none (.k (.cmp .eql .i64 (.tmp 77) (.const (.int .i64 0)))), .mk (some 79) none (.k (.mov (.tmp 78))), .mk (some 80) (some (79, true)) (.k (.mov (.tmp 8))), .mk (some 81) (some (79, true)) (.k (.mov (.tmp 10))), .mk (some 82) (some (79, true)) (.call 9 [.tmp 80, .tmp 81]), .mk (some 83) none (.k (.pick (.tmp 79) (.tmp 82) (.const (.bool false)))), .mk (some 84) none (.k (.mov (.tmp 83))), .mk (some 85) (some (84, true)) (.k (.mov (.tmp 7))), .mk (some 86) (some (84, true)) (.k (.mov (.tmp 0))), .mk (some 87) (some (84, true)) (.call 10 [.tmp 85, .tmp 86]), .mk (some 88) none (.k (.pick (.tmp 84) (.tmp 87) (.const (.bool false)))), .mk (some 89) none (.k (.mov (.tmp 88))), .mk (some 90) (some (89, true)) (.k (.mov (.tmp 15))), .mk (some 91) (some (89, true)) (.k (.mov (.tmp 90))), .mk (some 92) (some (91, true)) (.k (.mov (.tmp 12))), .mk (some 93) (some (91, true)) (.k (.cmp .eql .i64 (.tmp 92) (.const (.int .i64 0)))), .mk (some 94) (some (89, true)) (.k (.pick (.tmp 91) (.tmp 93) (.const (.bool false)))), .mk (some 95) (some (89, true)) (.k (.mov (.tmp 94))), .mk (some 96) (some (95, true)) (.k (.mov (.tmp 11))), .mk (some 97) (some (95, true)) (.k (.mov (.tmp 13))), .mk (some 98) (some (95, true)) (.k (.cmp .eql .i64 (.tmp 96) (.tmp 97))), .mk (some 99) (some (89, true)) (.k (.pick (.tmp 95) (.tmp 98) (.const (.bool false)))), .mk (some 100) (some (89, true)) (.k (.mov (.tmp 99))), .mk (some 101) (some (100, false)) (.k (.mov (.tmp 15))), .mk (some 102) (some (100, false)) (.k (.not (.tmp 101))), .mk (some 103) (some (100, false)) (.k (.mov (.tmp 102))), .mk (some 104) (some (103, true)) (.k (.mov (.tmp 12))), .mk (some 105) (some (103, true)) (.k (.cmp .eql .i64 (.tmp 104) (.const (.int .i64 2)))), .mk (some 106) (some (100, false)) (.k (.pick (.tmp 103) (.tmp 105) (.const (.bool false)))), .mk (some 107) (some (100, false)) (.k (.mov (.tmp 106))), .mk (some 108) (some (107, true)) (.k (.mov (.tmp 11))), .mk (some 109) (some (107, true)) (.k (.cmp .eql .i64 (.tmp 108) (.const (.int .i64 0)))), .mk (some 110) (some (100, false)) (.k (.pick (.tmp 107) (.tmp 109) (.const (.bool false)))), .mk (some 111) (some (89, true)) (.k (.pick (.tmp 100) (.const (.bool true)) (.tmp 110))), .mk (some 112) none (.k (.pick (.tmp 89) (.tmp 111) (.const (.bool false)))), .mk (some 4) none (.k (.mov (.tmp 112)))]) .ret
def T3n7 : XC := .seq (.ops [.mk (some 69) none (.k (.mov (.tmp 1))), .mk (some 70) none (.k (.cmp .geq .i64 (.tmp 69) (.const (.int .i64 0)))), .mk (some 71) none (.k (.mov (.tmp 70))), .mk (some 72) (some (71, true)) (.k (.mov (.tmp 1))), .mk (some 73) (some (71, true)) (.k (.mov (.tmp 0))), .mk (some 74) (some (71, true)) (.k (.lenS (.tmp 73))), .mk (some 75) (some (71, true)) (.k (.cmp .lss .i64 (.tmp 72) (.tmp 74))), .mk (some 76) none (.k (.pick (.tmp 71) (.tmp 75) (.const (.bool false)))), .mk (some 15) none (.k (.mov (.tmp 76)))]) (.ref 6)
def T3n8 : XC := .seq (.seq (.ops [.mk (some 14) none (.k (.mov (.const (.int .i64 0))))]) (.blk 0 (.loop (.ref 5)))) (.ref 7)
def T3n9 : XC := .seq (.ops [.mk (some 13) none (.k (.mov (.const (.int .i64 0))))]) (.ref 8)
def T3n10 : XC := .seq (.ops [.mk (some 41) none (.k (.mov (.tmp 7))), .mk (some 42) none (.k (.mov (.tmp 1))), .mk (some 43) none (.call 8 [.tmp 41, .tmp 42]), .mk (some 40) none (.k (.mov (.tmp 43))), .mk (some 44) none (.k (.ext (.tmp 40) 0)), .mk (some 45) none (.k (.ext (.tmp 40) 1)), .mk (some 11) none (.k (.mov (.tmp 44))), .mk (some 12) none (.k (.mov (.tmp 45)))]) (.ref 9)
def T3n11 : XC := .seq (.ops [.mk (some 38) none (.k (.mov (.tmp 0))), .mk (some 39) none (.call 7 [.tmp 38]), .mk (some 10) none (.k (.mov (.tmp 39)))]) (.ref 10)
def T3n12 : XC := .seq (.ops [.mk (some 34) none (.k (.mov (.tmp 7))), .mk (some 35) none (.call 6 [.tmp 34]), .mk (some 33) none (.k (.mov (.tmp 35))), .mk (some 36) none (.k (.ext (.tmp 33) 0)), .mk (some 37) none (.k (.ext (.tmp 33) 1)), .mk (some 8) none (.k (.mov (.tmp 36))), .mk (some 9) none (.k (.mov (.tmp 37)))]) (.ref 11)
def T3n13 : XC := .seq (.ops [.mk (some 30) none (.k (.buildS 37 0 5 [.int .i64 0, .int .i64 0, .int .i64 0, .int .i64 0, .int .i64 0] [])), .mk (some 31) none (.k (.mov (.tmp 0))), .mk (some 32) none (.k (.app 37 5 40 (.tmp 30) (.tmp 31))), .mk (some 7) none (.k (.mov (.tmp 32)))]) (.ref 12)
def T3n14 : XC := .seq (.seq (.ops [.mk (some 16) none (.k (.mov (.tmp 0))), .mk (some 17) none (.k (.lenS (.tmp 16))), .mk (some 18) none (.k (.cmp .gtr .i64 (.tmp 17) (.const (.int .i64 300))))]) (.cond (.tmp 18) (.ref 1) .skip)) (.ref 13)
def T3 : Nat → XC
 | 0 => T3n0
 | 1 => T3n1
 | 2 => T3n2
 | 3 => T3n3
 | 4 => T3n4
 | 5 => T3n5
 | 6 => T3n6
 | 7 => T3n7
 | 8 => T3n8
 | 9 => T3n9
 | 10 => T3n10
 | 11 => T3n11
 | 12 => T3n12
 | 13 => T3n13
 | 14 => T3n14
 | _ => .skip
theorem t3n0 : T3 0 = T3n0 := rfl
theorem t3n1 : T3 1 = T3n1 := rfl
theorem t3n2 : T3 2 = T3n2 := rfl
theorem t3n3 : T3 3 = T3n3 := rfl
theorem t3n4 : T3 4 = T3n4 := rfl
theorem t3n5 : T3 5 = T3n5 := rfl
theorem t3n6 : T3 6 = T3n6 := rfl
theorem t3n7 : T3 7 = T3n7 := rfl
theorem t3n8 : T3 8 = T3n8 := rfl
theorem t3n9 : T3 9 = T3n9 := rfl
theorem t3n10 : T3 10 = T3n10 := rfl
theorem t3n11 : T3 11 = T3n11 := rfl
theorem t3n12 : T3 12 = T3n12 := rfl
theorem t3n13 : T3 13 = T3n13 := rfl
theorem t3n14 : T3 14 = T3n14 := rfl
def X3 : XC := .seq (.ops [.mk (some 4) none (.k (.mov (.const (.bool false))))]) (.ref 14)
abbrev K3 : List Nat := [0, 1, 4, 6, 7, 8, 9, 10, 11, 12, 13, 14, 15, 18, 49, 67]
theorem n3 : Tryd.f3.ntmps = 113 := by kernel_rfl
theorem r3 : resT Tryd.f3.results.toList = some [4] := by kernel_rfl
theorem x3 : cmpF Tryd.prog Tryd.f3 = some (expand T3 16 X3) := by kernel_rfl
def T9n0 : XC := .seq (.ops [.mk (some 4) none (.k (.mov (.const (.bool false))))]) .ret
def T9n1 : XC := .seq (.ops [.mk (some 4) none (.k (.mov (.const (.bool false))))]) .ret
def T9n2 : XC := .seq (.ops [.mk (some 4) none (.k (.mov (.const (.bool false))))]) .ret
def T9n3 : XC := .ops [.mk (some 65) none (.k (.mov (.tmp 6))), .mk (some 66) none (.k (.arith .add .i64 (.tmp 65) (.const (.int .i64 1)))), .mk (some 6) none (.k (.mov (.tmp 66)))]
def T9n4 : XC := .seq (.blk 3 (.seq (.ops [.mk (some 67) none (.k (.mov (.tmp 0))), .mk (some 68) none (.k (.mov (.tmp 5))), .mk (some 69) none (.k (.idx 3 (.tmp 67) (.tmp 68))), .mk (some 70) none (.k (.fld 2 (.tmp 69))), .mk (some 71) none (.k (.load [.slc] false (.tmp 70))), .mk (some 72) none (.k (.mov (.tmp 6))), .mk (some 73) none (.k (.idx 1 (.tmp 71) (.tmp 72))), .mk (some 74) none (.k (.load [.int .i64] false (.tmp 73))), .mk (some 75) none (.k (.mov (.tmp 1))), .mk (some 76) none (.k (.mov (.tmp 5))), .mk (some 77) none (.k (.idx 3 (.tmp 75) (.tmp 76))), .mk (some 78) none (.k (.fld 2 (.tmp 77))), .mk (some 79) none (.k (.load [.slc] false (.tmp 78))), .mk (some 80) none (.k (.mov (.tmp 6))), .mk (some 81) none (.k (.idx 1 (.tmp 79) (.tmp 80))), .mk (some 82) none (.k (.load [.int .i64] false (.tmp 81))), .mk (some 83) none (.k (.cmp .neq .i64 (.tmp 74) (.tmp 82)))]) (.cond (.tmp 83) (.ref 2) .skip))) (.ref 3)
def T9n5 : XC := .seq (.seq (.ops [.mk (some 57) none (.k (.mov (.tmp 6))), .mk (some 58) none (.k (.mov (.tmp 0))), .mk (some 59) none (.k (.mov (.tmp 5))), .mk (some 60) none (.k (.idx 3 (.tmp 58) (.tmp 59))), .mk (some 61) none (.k (.fld 2 (.tmp 60))), .mk (some 62) none (.k (.load [.slc] false (.tmp 61))), .mk (some 63) none (.k (.lenS (.tmp 62))), .mk (some 64) none (.k (.cmp .lss .i64 (.tmp 57) (.tmp 63)))]) (.cond (.tmp 64) .skip (.exit 2))) (.ref 4)
def T9n6 : XC := .seq (.ops [.mk (some 6) none (.k (.mov (.const (.int .i64 0))))]) (.blk 2 (.loop (.ref 5)))
def T9n7 : XC := .ops [.mk (some 16) none (.k (.mov (.tmp 5))), .mk (some 17) none (.k (.arith .add .i64 (.tmp 16) (.const (.int .i64 1)))), .mk (some 5) none (.k (.mov (.tmp 17)))]
def T9n8 : XC := .seq (.blk 1 (.seq (.seq (.ops [.mk (some 18) none (.k (.mov (.tmp 0))), .mk (some 19) none (.k (.mov (.tmp 5))), .mk (some 20) none (.k (.idx 3 (.tmp 18) (.tmp 19))), .mk (some 21) none (.k (.fld 0 (.tmp 20))), .mk (some 22) none (.k (.load [.int .i64] false (.tmp 21))), .mk (some 23) none (.k (.mov (.tmp 1))), .mk (some 24) none (.k (.mov (.tmp 5))), .mk (some 25) none (.k (.idx 3 (.tmp 23) (.tmp 24))), .mk (some 26) none (.k (.fld 0 (.tmp 25))), .mk (some 27) none (.k (.load [.int .i64] false (.tmp 26))), .mk (some 28) none (.k (.cmp .neq .i64 (.tmp 22) (.tmp 27))), .mk (some 29) none (.k (.mov (.tmp 28))), .mk (some 30) (some (29, false)) (.k (.mov (.tmp 0))), .mk (some 31) (some (29, false)) (.k (.mov (.tmp 5))), .mk (some 32) (some (29, false)) (.k (.idx 3 (.tmp 30) (.tmp 31))), .mk (some 33) (some (29, false)) (.k (.fld 1 (.tmp 32))), .mk (some 34) (some (29, false)) (.k (.load [.int .i64] false (.tmp 33))), .mk (some 35) (some (29, false)) (.k (.mov (.tmp 1))), .mk (some 36) (some (29, false)) (.k (.mov (.tmp 5))), .mk (some 37) (some (29, false)) (.k (.idx 3 (.tmp 35) (.tmp 36))), .mk (some 38) (some (29, false)) (.k (.fld 1 (.tmp 37))), .mk (some 39) (some (29, false)) (.k (.load [.int .i64] false (.tmp 38))), .mk (some 40) (some (29, false)) (.k (.cmp .neq .i64 (.tmp 34) (.tmp 39))), .mk (some 41) none (.k (.pick (.tmp 29) (.const (.bool true)) (.tmp 40))), .mk (some 42) none (.k (.mov (.tmp 41))), .mk (some 43) (some (42, false)) (.k (.mov (.tmp 0))), .mk (some 44) (some (42, false)) (.k (.mov (.tmp 5))), .mk (some 45) (some (42, false)) (.k (.idx 3 (.tmp 43) (.tmp 44))), .mk (some 46) (some (42, false)) (.k (.fld 2 (.tmp 45))), .mk (some 47) (some (42, false)) (.k (.load [.slc] false (.tmp 46))), .mk (some 48) (some (42, false)) (.k (.lenS (.tmp 47))), .mk (some 49) (some (42, false)) (.k (.mov (.tmp 1))), .mk (some 50) (some (42, false)) (.k (.mov (.tmp 5))), .mk (some 51) (some (42, false)) (.k (.idx 3 (.tmp 49) (.tmp 50))), .mk (some 52) (some (42, false)) (.k (.fld 2 (.tmp 51))), .mk (some 53) (some (42, false)) (.k (.load [.slc] false (.tmp 52))), .mk (some 54) (some (42, false)) (.k (.lenS (.tmp 53))), .mk (some 55) (some (42, false)) (.k (.cmp .neq .i64 (.tmp 48) (.tmp 54))), .mk (some 56) none (.k (.pick (.tmp 42) (.const (.bool true)) (.tmp 55)))]) (.cond (.tmp 56) (.ref 1) .skip)) (.ref 6))) (.ref 7)
def T9n9 : XC := .seq (.seq (.ops [.mk (some 12) none (.k (.mov (.tmp 5))), .mk (some 13) none (.k (.mov (.tmp 0))), .mk (some 14) none (.k (.lenS (.tmp 13))), .mk (some 15) none (.k (.cmp .lss .i64 (.tmp 12) (.tmp 14)))]) (.cond (.tmp 15) .skip (.exit 0))) (.ref 8)
def T9n10 : XC := .seq (.ops [.mk (some 4) none (.k (.mov (.const (.bool true))))]) .ret
def T9n11 : XC := .seq (.seq (.ops [.mk (some 5) none (.k (.mov (.const (.int .i64 0))))]) (.blk 0 (.loop (.ref 9)))) (.ref 10)
def T9n12 : XC := .seq (.seq (.ops [.mk (some 7) none (.k (.mov (.tmp 0))), .mk (some 8) none (.k (.lenS (.tmp 7))), .mk (some 9) none (.k (.mov (.tmp 1))), .mk (some 10) none (.k (.lenS (.tmp 9))), .mk (some 11) none (.k (.cmp .neq .i64 (.tmp 8) (.tmp 10)))]) (.cond (.tmp 11) (.ref 0) .skip)) (.ref 11)
def T9 : Nat → XC
 | 0 => T9n0
 | 1 => T9n1
 | 2 => T9n2
 | 3 => T9n3
 | 4 => T9n4
 | 5 => T9n5
 | 6 => T9n6
 | 7 => T9n7
 | 8 => T9n8
 | 9 => T9n9
 | 10 => T9n10
 | 11 => T9n11
 | 12 => T9n12
 | _ => .skip
theorem t9n0 : T9 0 = T9n0 := rfl
theorem t9n1 : T9 1 = T9n1 := rfl
theorem t9n2 : T9 2 = T9n2 := rfl
theorem t9n3 : T9 3 = T9n3 := rfl
theorem t9n4 : T9 4 = T9n4 := rfl
theorem t9n5 : T9 5 = T9n5 := rfl
theorem t9n6 : T9 6 = T9n6 := rfl
theorem t9n7 : T9 7 = T9n7 := rfl
theorem t9n8 : T9 8 = T9n8 := rfl
theorem t9n9 : T9 9 = T9n9 := rfl
theorem t9n10 : T9 10 = T9n10 := rfl
theorem t9n11 : T9 11 = T9n11 := rfl
theorem t9n12 : T9 12 = T9n12 := rfl
def X9 : XC := .seq (.ops [.mk (some 4) none (.k (.mov (.const (.bool false))))]) (.ref 12)
abbrev K9 : List Nat := [0, 1, 4, 5, 6, 11, 15, 56, 64, 83]
theorem n9 : Tryd.f9.ntmps = 84 := by kernel_rfl
theorem r9 : resT Tryd.f9.results.toList = some [4] := by kernel_rfl
theorem x9 : cmpF Tryd.prog Tryd.f9 = some (expand T9 14 X9) := by kernel_rfl
end Go.Proofs.YtgghmmjoplddbaaDoor
