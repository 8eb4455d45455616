/- Printed by program: the small code of functions, and that it is theirs. -/
import Derived.Test.YtimmobbginjkfaaSxStill
import Derived.Test.YtimmobbginjkfaaProg
import Derived.KernelRfl
set_option linter.unusedSimpArgs false
set_option linter.unusedVariables false
set_option linter.unnecessarySimpa false
namespace Go.Proofs.Ytimmobbginjkfaa
open Go Go.Sx
set_option maxRecDepth 100000
def T16n0 : XC := .seq (.ops [.mk (some 20) none (.k (.build [.int .i64 0, .int .i64 0, .slice none 0 0, .int .i64 0] [])), .mk none none (.k (.store 4 (.tmp 4) (.tmp 20))), .mk (some 5) none (.k (.mov (.const (.int .i64 2))))]) .ret
def T16n1 : XC := .seq (.ops [.mk (some 21) none (.k (.mov (.tmp 0))), .mk (some 22) none (.k (.mov (.tmp 1))), .mk (some 23) none (.k (.build [.int .i64 0, .int .i64 0, .slice none 0 0, .int .i64 0] [(0, 1, .tmp 21), (1, 1, .tmp 22)])), .mk none none (.k (.store 4 (.tmp 4) (.tmp 23))), .mk (some 5) none (.k (.mov (.const (.int .i64 0))))]) .ret
def T16n2 : XC := .seq (.seq (.ops [.mk (some 6) none (.k (.mov (.tmp 0))), .mk (some 7) none (.k (.cmp .lss .i64 (.tmp 6) (.const (.int .i64 1)))), .mk (some 8) none (.k (.mov (.tmp 7))), .mk (some 9) (some (8, false)) (.k (.mov (.tmp 0))), .mk (some 10) (some (8, false)) (.k (.cmp .gtr .i64 (.tmp 9) (.const (.int .i64 8)))), .mk (some 11) none (.k (.pick (.tmp 8) (.const (.bool true)) (.tmp 10))), .mk (some 12) none (.k (.mov (.tmp 11))), .mk (some 13) (some (12, false)) (.k (.mov (.tmp 1))), .mk (some 14) (some (12, false)) (.k (.cmp .lss .i64 (.tmp 13) (.const (.int .i64 1)))), .mk (some 15) none (.k (.pick (.tmp 12) (.const (.bool true)) (.tmp 14))), .mk (some 16) none (.k (.mov (.tmp 15))), .mk (some 17) (some (16, false)) (.k (.mov (.tmp 1))), .mk (some 18) (some (16, false)) (.k (.cmp .gtr .i64 (.tmp 17) (.const (.int .i64 4)))), .mk (some 19) none (.k (.pick (.tmp 16) (.const (.bool true)) (.tmp 18)))]) (.cond (.tmp 19) (.ref 0) .skip)) (.ref 1)
def T16 : Nat → XC
 | 0 => T16n0
 | 1 => T16n1
 | 2 => T16n2
 | _ => .skip
theorem t16n0 : T16 0 = T16n0 := rfl
theorem t16n1 : T16 1 = T16n1 := rfl
theorem t16n2 : T16 2 = T16n2 := rfl
def X16 : XC := .seq (.ops [.mk (some 4) none (.k (.alloc 47 [.int .i64 0, .int .i64 0, .slice none 0 0, .int .i64 0])), .mk (some 5) none (.k (.mov (.const (.int .i64 0))))]) (.ref 2)
abbrev K16 : List Nat := [0, 1, 4, 5, 19]
theorem n16 : Try.f16.ntmps = 24 := by kernel_rfl
theorem r16 : rvOf Try.prog Try.f16.results.toList = some [RV.cell 4 4 true, RV.tmp 5] := by kernel_rfl
theorem x16 : cmpF Try.prog Try.f16 = some (expand T16 4 X16) := by kernel_rfl
def T30n0 : XC := .seq (.ops [.mk (some 26) none (.k (.build [.int .i64 0, .int .i64 0, .bool false, .bool false, .int .u64 0, .int .u64 0, .int .u64 0, .int .u64 0, .int .u64 0, .int .u64 0, .int .u64 0, .int .u64 0, .int .u64 0, .int .u64 0, .int .u64 0, .int .u64 0, .int .u64 0, .int .u64 0, .int .u64 0, .int .u64 0, .int .i64 0] [])), .mk none none (.k (.store 21 (.tmp 8) (.tmp 26))), .mk (some 9) none (.k (.mov (.const (.bool false)))), .mk (some 10) none (.k (.mov (.const (.int .i64 2))))]) .ret
def T30n1 : XC := .seq (.ops [.mk (some 31) none (.k (.build [.int .i64 0, .int .i64 0, .bool false, .bool false, .int .u64 0, .int .u64 0, .int .u64 0, .int .u64 0, .int .u64 0, .int .u64 0, .int .u64 0, .int .u64 0, .int .u64 0, .int .u64 0, .int .u64 0, .int .u64 0, .int .u64 0, .int .u64 0, .int .u64 0, .int .u64 0, .int .i64 0] [])), .mk none none (.k (.store 21 (.tmp 8) (.tmp 31))), .mk (some 9) none (.k (.mov (.const (.bool false)))), .mk (some 10) none (.k (.mov (.const (.int .i64 21))))]) .ret
def T30n2 : XC := .cond (.tmp 105) (.ops [.mk (some 106) none (.k (.mov (.tmp 13))), .mk (some 12) none (.k (.mov (.tmp 106)))]) .skip
def T30n3 : XC := .seq (.ops [.mk (some 63) none (.k (.mov (.tmp 0))), .mk (some 64) none (.k (.nilc (.tmp 63))), .mk (some 65) none (.k (.fld 2 (.tmp 64))), .mk (some 66) none (.k (.load [.slc] false (.tmp 65))), .mk (some 67) none (.k (.mov (.tmp 13))), .mk (some 68) none (.k (.idx 21 (.tmp 66) (.tmp 67))), .mk (some 69) none (.k (.fld 2 (.tmp 68))), .mk (some 70) none (.k (.load [.bool] false (.tmp 69))), .mk (some 71) none (.k (.not (.tmp 70))), .mk (some 72) none (.k (.mov (.tmp 71))), .mk (some 73) (some (72, true)) (.k (.mov (.tmp 0))), .mk (some 74) (some (72, true)) (.k (.nilc (.tmp 73))), .mk (some 75) (some (72, true)) (.k (.fld 2 (.tmp 74))), .mk (some 76) (some (72, true)) (.k (.load [.slc] false (.tmp 75))), .mk (some 77) (some (72, true)) (.k (.mov (.tmp 13))), .mk (some 78) (some (72, true)) (.k (.idx 21 (.tmp 76) (.tmp 77))), .mk (some 79) (some (72, true)) (.k (.fld 3 (.tmp 78))), .mk (some 80) (some (72, true)) (.k (.load [.bool] false (.tmp 79))), .mk (some 81) (some (72, true)) (.k (.not (.tmp 80))), .mk (some 82) none (.k (.pick (.tmp 72) (.tmp 81) (.const (.bool false)))), .mk (some 83) none (.k (.mov (.tmp 82))), .mk (some 84) (some (83, true)) (.k (.mov (.tmp 12))), .mk (some 85) (some (83, true)) (.k (.cmp .lss .i64 (.tmp 84) (.const (.int .i64 0)))), .mk (some 86) (some (83, true)) (.k (.mov (.tmp 85))), .mk (some 87) (some (86, false)) (.k (.mov (.tmp 0))), .mk (some 88) (some (86, false)) (.k (.nilc (.tmp 87))), .mk (some 89) (some (86, false)) (.k (.fld 2 (.tmp 88))), .mk (some 90) (some (86, false)) (.k (.load [.slc] false (.tmp 89))), .mk (some 91) (some (86, false)) (.k (.mov (.tmp 13))), .mk (some 92) (some (86, false)) (.k (.idx 21 (.tmp 90) (.tmp 91))), .mk (some 93) (some (86, false)) (.k (.fld 20 (.tmp 92))), .mk (some 94) (some (86, false)) (.k (.load [.int .i64] false (.tmp 93))), .mk (some 95) (some (86, false)) (.k (.mov (.tmp 0))), .mk (some 96) (some (86, false)) (.k (.nilc (.tmp 95))), .mk (some 97) (some (86, false)) (.k (.fld 2 (.tmp 96))), .mk (some 98) (some (86, false)) (.k (.load [.slc] false (.tmp 97))), .mk (some 99) (some (86, false)) (.k (.mov (.tmp 12))), .mk (some 100) (some (86, false)) (.k (.idx 21 (.tmp 98) (.tmp 99))), .mk (some 101) (some (86, false)) (.k (.fld 20 (.tmp 100))), .mk (some 102) (some (86, false)) (.k (.load [.int .i64] false (.tmp 101))), .mk (some 103) (some (86, false)) (.k (.cmp .lss .i64 (.tmp 94) (.tmp 102))), .mk (some 104) (some (83, true)) (.k (.pick (.tmp 86) (.const (.bool true)) (.tmp 103))), .mk (some 105) none (.k (.pick (.tmp 83) (.tmp 104) (.const (.bool false))))]) (.ref 2)
def T30n4 : XC := .seq (.ops [.mk (some 61) none (.k (.mov (.tmp 11))), .mk (some 62) none (.k (.arith .add .i64 (.tmp 61) (.const (.int .i64 1)))), .mk (some 11) none (.k (.mov (.tmp 62)))]) (.ref 3)
def T30n5 : XC := .ops [.mk (some 39) none (.k (.mov (.tmp 13))), .mk (some 40) none (.k (.arith .add .i64 (.tmp 39) (.const (.int .i64 1)))), .mk (some 13) none (.k (.mov (.tmp 40)))]
def T30n6 : XC := .seq (.blk 1 (.seq (.seq (.ops [.mk (some 41) none (.k (.mov (.tmp 0))), .mk (some 42) none (.k (.nilc (.tmp 41))), .mk (some 43) none (.k (.fld 2 (.tmp 42))), .mk (some 44) none (.k (.load [.slc] false (.tmp 43))), .mk (some 45) none (.k (.mov (.tmp 13))), .mk (some 46) none (.k (.idx 21 (.tmp 44) (.tmp 45))), .mk (some 47) none (.k (.fld 0 (.tmp 46))), .mk (some 48) none (.k (.load [.int .i64] false (.tmp 47))), .mk (some 49) none (.k (.mov (.tmp 0))), .mk (some 50) none (.k (.nilc (.tmp 49))), .mk (some 51) none (.k (.fld 0 (.tmp 50))), .mk (some 52) none (.k (.load [.int .i64] false (.tmp 51))), .mk (some 53) none (.k (.div .rem .i64 (.tmp 48) (.tmp 52))), .mk (some 54) none (.k (.mov (.tmp 1))), .mk (some 55) none (.k (.mov (.tmp 0))), .mk (some 56) none (.k (.nilc (.tmp 55))), .mk (some 57) none (.k (.fld 0 (.tmp 56))), .mk (some 58) none (.k (.load [.int .i64] false (.tmp 57))), .mk (some 59) none (.k (.div .rem .i64 (.tmp 54) (.tmp 58))), .mk (some 60) none (.k (.cmp .neq .i64 (.tmp 53) (.tmp 59)))]) (.cond (.tmp 60) (.exit 1) .skip)) (.ref 4))) (.ref 5)
def T30n7 : XC := .seq (.seq (.ops [.mk (some 32) none (.k (.mov (.tmp 13))), .mk (some 33) none (.k (.mov (.tmp 0))), .mk (some 34) none (.k (.nilc (.tmp 33))), .mk (some 35) none (.k (.fld 2 (.tmp 34))), .mk (some 36) none (.k (.load [.slc] false (.tmp 35))), .mk (some 37) none (.k (.lenS (.tmp 36))), .mk (some 38) none (.k (.cmp .lss .i64 (.tmp 32) (.tmp 37)))]) (.cond (.tmp 38) .skip (.exit 0))) (.ref 6)
def T30n8 : XC := .seq (.ops [.mk (some 117) none (.k (.load [.int .i64, .int .i64, .bool, .bool, .int .u64, .int .u64, .int .u64, .int .u64, .int .u64, .int .u64, .int .u64, .int .u64, .int .u64, .int .u64, .int .u64, .int .u64, .int .u64, .int .u64, .int .u64, .int .u64, .int .i64] true (.tmp 14))), .mk none none (.k (.store 21 (.tmp 8) (.tmp 117))), .mk (some 9) none (.k (.mov (.const (.bool false)))), .mk (some 10) none (.k (.mov (.const (.int .i64 22))))]) .ret
def T30n9 : XC := .ops [.mk (some 125) none (.k (.mov (.tmp 0))), .mk (some 126) none (.k (.mov (.tmp 12))), .mk (some 127) none (.call 47 [.tmp 125, .tmp 126])]
def T30n10 : XC := .seq (.ops [.mk (some 118) none (.k (.mov (.tmp 0))), .mk (some 119) none (.k (.nilc (.tmp 118))), .mk (some 120) none (.k (.fld 2 (.tmp 119))), .mk (some 121) none (.k (.load [.slc] false (.tmp 120))), .mk (some 122) none (.k (.mov (.tmp 12))), .mk (some 123) none (.k (.idx 21 (.tmp 121) (.tmp 122))), .mk (some 124) none (.k (.load [.int .i64, .int .i64, .bool, .bool, .int .u64, .int .u64, .int .u64, .int .u64, .int .u64, .int .u64, .int .u64, .int .u64, .int .u64, .int .u64, .int .u64, .int .u64, .int .u64, .int .u64, .int .u64, .int .u64, .int .i64] true (.tmp 123))), .mk none none (.k (.store 21 (.tmp 14) (.tmp 124)))]) (.ref 9)
def T30n11 : XC := .seq (.seq (.ops [.mk (some 115) none (.k (.mov (.tmp 12))), .mk (some 116) none (.k (.cmp .lss .i64 (.tmp 115) (.const (.int .i64 0))))]) (.cond (.tmp 116) (.ref 8) .skip)) (.ref 10)
def T30n12 : XC := .seq (.ops [.mk (some 145) none (.k (.load [.int .i64, .int .i64, .bool, .bool, .int .u64, .int .u64, .int .u64, .int .u64, .int .u64, .int .u64, .int .u64, .int .u64, .int .u64, .int .u64, .int .u64, .int .u64, .int .u64, .int .u64, .int .u64, .int .u64, .int .i64] true (.tmp 14))), .mk (some 146) none (.k (.mov (.tmp 15))), .mk none none (.k (.store 21 (.tmp 8) (.tmp 145))), .mk (some 9) none (.k (.mov (.tmp 146))), .mk (some 10) none (.k (.mov (.const (.int .i64 0))))]) .ret
def T30n13 : XC := .seq (.ops [.mk (some 135) none (.k (.mov (.tmp 0))), .mk (some 136) none (.k (.mov (.tmp 1))), .mk (some 137) none (.k (.mov (.tmp 2))), .mk (some 138) none (.k (.load [.int .u64, .int .u64, .int .u64, .int .u64, .int .u64, .int .u64, .int .u64, .int .u64] true (.tmp 7))), .mk (some 139) none (.k (.mov (.tmp 0))), .mk (some 140) none (.k (.nilc (.tmp 139))), .mk (some 141) none (.k (.fld 3 (.tmp 140))), .mk (some 142) none (.k (.load [.int .i64] false (.tmp 141))), .mk (some 143) none (.k (.build [.int .i64 0, .int .i64 0, .bool false, .bool false, .int .u64 0, .int .u64 0, .int .u64 0, .int .u64 0, .int .u64 0, .int .u64 0, .int .u64 0, .int .u64 0, .int .u64 0, .int .u64 0, .int .u64 0, .int .u64 0, .int .u64 0, .int .u64 0, .int .u64 0, .int .u64 0, .int .i64 0] [(0, 1, .tmp 136), (1, 1, .tmp 137), (4, 8, .tmp 138), (20, 1, .tmp 142)])), .mk (some 144) none (.call 48 [.tmp 135, .tmp 143])]) (.ref 12)
def T30n14 : XC := .seq (.ops [.mk (some 128) none (.k (.mov (.tmp 0))), .mk (some 129) none (.k (.nilc (.tmp 128))), .mk (some 130) none (.k (.fld 3 (.tmp 129))), .mk (some 131) none (.k (.load [.int .i64] false (.tmp 130))), .mk (some 132) none (.k (.arith .add .i64 (.tmp 131) (.const (.int .i64 1)))), .mk (some 133) none (.k (.nilc (.tmp 128))), .mk (some 134) none (.k (.fld 3 (.tmp 133))), .mk none none (.k (.store 1 (.tmp 134) (.tmp 132)))]) (.ref 13)
def T30n15 : XC := .seq (.seq (.ops [.mk (some 114) none (.k (.mov (.tmp 15)))]) (.cond (.tmp 114) (.ref 11) .skip)) (.ref 14)
def T30n16 : XC := .seq (.ops [.mk (some 108) none (.k (.mov (.tmp 11))), .mk (some 109) none (.k (.mov (.tmp 0))), .mk (some 110) none (.k (.nilc (.tmp 109))), .mk (some 111) none (.k (.fld 1 (.tmp 110))), .mk (some 112) none (.k (.load [.int .i64] false (.tmp 111))), .mk (some 113) none (.k (.cmp .eql .i64 (.tmp 108) (.tmp 112))), .mk (some 15) none (.k (.mov (.tmp 113)))]) (.ref 15)
def T30n17 : XC := .seq (.ops [.mk (some 107) none (.k (.build [.int .i64 0, .int .i64 0, .bool false, .bool false, .int .u64 0, .int .u64 0, .int .u64 0, .int .u64 0, .int .u64 0, .int .u64 0, .int .u64 0, .int .u64 0, .int .u64 0, .int .u64 0, .int .u64 0, .int .u64 0, .int .u64 0, .int .u64 0, .int .u64 0, .int .u64 0, .int .i64 0] [])), .mk (some 14) none (.k (.alloc 44 [.int .i64 0, .int .i64 0, .bool false, .bool false, .int .u64 0, .int .u64 0, .int .u64 0, .int .u64 0, .int .u64 0, .int .u64 0, .int .u64 0, .int .u64 0, .int .u64 0, .int .u64 0, .int .u64 0, .int .u64 0, .int .u64 0, .int .u64 0, .int .u64 0, .int .u64 0, .int .i64 0])), .mk none none (.k (.store 21 (.tmp 14) (.tmp 107)))]) (.ref 16)
def T30n18 : XC := .seq (.seq (.ops [.mk (some 13) none (.k (.mov (.const (.int .i64 0))))]) (.blk 0 (.loop (.ref 7)))) (.ref 17)
def T30n19 : XC := .seq (.ops [.mk (some 12) none (.k (.mov (.const (.int .i64 (-1)))))]) (.ref 18)
def T30n20 : XC := .seq (.ops [.mk (some 11) none (.k (.mov (.const (.int .i64 0))))]) (.ref 19)
def T30n21 : XC := .seq (.seq (.ops [.mk (some 27) none (.k (.mov (.tmp 0))), .mk (some 28) none (.k (.mov (.tmp 1))), .mk (some 29) none (.call 46 [.tmp 27, .tmp 28]), .mk (some 30) none (.k (.cmp .geq .i64 (.tmp 29) (.const (.int .i64 0))))]) (.cond (.tmp 30) (.ref 1) .skip)) (.ref 20)
def T30n22 : XC := .seq (.seq (.ops [.mk (some 16) none (.k (.mov (.tmp 1))), .mk (some 17) none (.k (.cmp .lss .i64 (.tmp 16) (.const (.int .i64 0)))), .mk (some 18) none (.k (.mov (.tmp 17))), .mk (some 19) (some (18, false)) (.k (.mov (.tmp 2))), .mk (some 20) (some (18, false)) (.k (.cmp .neq .i64 (.tmp 19) (.const (.int .i64 1)))), .mk (some 21) (some (18, false)) (.k (.mov (.tmp 20))), .mk (some 22) (some (21, true)) (.k (.mov (.tmp 2))), .mk (some 23) (some (21, true)) (.k (.cmp .neq .i64 (.tmp 22) (.const (.int .i64 2)))), .mk (some 24) (some (18, false)) (.k (.pick (.tmp 21) (.tmp 23) (.const (.bool false)))), .mk (some 25) none (.k (.pick (.tmp 18) (.const (.bool true)) (.tmp 24)))]) (.cond (.tmp 25) (.ref 0) .skip)) (.ref 21)
def T30 : Nat → XC
 | 0 => T30n0
 | 1 => T30n1
 | 2 => T30n2
 | 3 => T30n3
 | 4 => T30n4
 | 5 => T30n5
 | 6 => T30n6
 | 7 => T30n7
 | 8 => T30n8
 | 9 => T30n9
 | 10 => T30n10
 | 11 => T30n11
 | 12 => T30n12
 | 13 => T30n13
 | 14 => T30n14
 | 15 => T30n15
 | 16 => T30n16
 | 17 => T30n17
 | 18 => T30n18
 | 19 => T30n19
 | 20 => T30n20
 | 21 => T30n21
 | 22 => T30n22
 | _ => .skip
theorem t30n0 : T30 0 = T30n0 := rfl
theorem t30n1 : T30 1 = T30n1 := rfl
theorem t30n2 : T30 2 = T30n2 := rfl
theorem t30n3 : T30 3 = T30n3 := rfl
theorem t30n4 : T30 4 = T30n4 := rfl
theorem t30n5 : T30 5 = T30n5 := rfl
theorem t30n6 : T30 6 = T30n6 := rfl
theorem t30n7 : T30 7 = T30n7 := rfl
theorem t30n8 : T30 8 = T30n8 := rfl
theorem t30n9 : T30 9 = T30n9 := rfl
theorem t30n10 : T30 10 = T30n10 := rfl
theorem t30n11 : T30 11 = T30n11 := rfl
theorem t30n12 : T30 12 = T30n12 := rfl
theorem t30n13 : T30 13 = T30n13 := rfl
theorem t30n14 : T30 14 = T30n14 := rfl
theorem t30n15 : T30 15 = T30n15 := rfl
theorem t30n16 : T30 16 = T30n16 := rfl
theorem t30n17 : T30 17 = T30n17 := rfl
theorem t30n18 : T30 18 = T30n18 := rfl
theorem t30n19 : T30 19 = T30n19 := rfl
theorem t30n20 : T30 20 = T30n20 := rfl
theorem t30n21 : T30 21 = T30n21 := rfl
theorem t30n22 : T30 22 = T30n22 := rfl
def X30 : XC := .seq (.ops [.mk (some 7) none (.k (.box 42 8 (.tmp 3))), .mk (some 8) none (.k (.alloc 44 [.int .i64 0, .int .i64 0, .bool false, .bool false, .int .u64 0, .int .u64 0, .int .u64 0, .int .u64 0, .int .u64 0, .int .u64 0, .int .u64 0, .int .u64 0, .int .u64 0, .int .u64 0, .int .u64 0, .int .u64 0, .int .u64 0, .int .u64 0, .int .u64 0, .int .u64 0, .int .i64 0])), .mk (some 9) none (.k (.mov (.const (.bool false)))), .mk (some 10) none (.k (.mov (.const (.int .i64 0))))]) (.ref 22)
abbrev K30 : List Nat := [0, 1, 2, 3, 7, 8, 9, 10, 11, 12, 13, 14, 15, 25, 30, 38, 60, 105, 114, 116]
theorem n30 : Try.f30.ntmps = 147 := by kernel_rfl
theorem r30 : rvOf Try.prog Try.f30.results.toList = some [RV.cell 8 21 true, RV.tmp 9, RV.tmp 10] := by kernel_rfl
theorem x30 : cmpF Try.prog Try.f30 = some (expand T30 24 X30) := by kernel_rfl
def T31n0 : XC := .seq (.ops [.mk (some 4) none (.k (.mov (.const (.int .u64 0)))), .mk (some 5) none (.k (.mov (.const (.int .i64 2))))]) .ret
def T31n1 : XC := .seq (.ops [.mk (some 4) none (.k (.mov (.const (.int .u64 0)))), .mk (some 5) none (.k (.mov (.const (.int .i64 20))))]) .ret
def T31n2 : XC := .seq (.ops [.mk (some 33) none (.k (.mov (.tmp 0))), .mk (some 34) none (.k (.nilc (.tmp 33))), .mk (some 35) none (.k (.fld 2 (.tmp 34))), .mk (some 36) none (.k (.load [.slc] false (.tmp 35))), .mk (some 37) none (.k (.mov (.tmp 6))), .mk (some 38) none (.k (.mov (.tmp 1))), .mk (some 39) none (.k (.div .rem .i64 (.tmp 38) (.const (.int .i64 8)))), .mk (some 40) none (.k (.idx 21 (.tmp 36) (.tmp 37))), .mk (some 41) none (.k (.fld 4 (.tmp 40))), .mk (some 42) none (.k (.idxA 8 1 (.tmp 41) (.tmp 39))), .mk (some 43) none (.k (.load [.int .u64] false (.tmp 42))), .mk (some 4) none (.k (.mov (.tmp 43))), .mk (some 5) none (.k (.mov (.const (.int .i64 0))))]) .ret
def T31n3 : XC := .seq (.ops [.mk (some 22) none (.k (.mov (.tmp 0))), .mk (some 23) none (.k (.nilc (.tmp 22))), .mk (some 24) none (.k (.fld 2 (.tmp 23))), .mk (some 25) none (.k (.load [.slc] false (.tmp 24))), .mk (some 26) none (.k (.mov (.tmp 6))), .mk (some 27) none (.k (.mov (.tmp 0))), .mk (some 28) none (.k (.nilc (.tmp 27))), .mk (some 29) none (.k (.fld 3 (.tmp 28))), .mk (some 30) none (.k (.load [.int .i64] false (.tmp 29))), .mk (some 31) none (.k (.idx 21 (.tmp 25) (.tmp 26))), .mk (some 32) none (.k (.fld 20 (.tmp 31))), .mk none none (.k (.store 1 (.tmp 32) (.tmp 30)))]) (.ref 2)
def T31n4 : XC := .seq (.ops [.mk (some 15) none (.k (.mov (.tmp 0))), .mk (some 16) none (.k (.nilc (.tmp 15))), .mk (some 17) none (.k (.fld 3 (.tmp 16))), .mk (some 18) none (.k (.load [.int .i64] false (.tmp 17))), .mk (some 19) none (.k (.arith .add .i64 (.tmp 18) (.const (.int .i64 1)))), .mk (some 20) none (.k (.nilc (.tmp 15))), .mk (some 21) none (.k (.fld 3 (.tmp 20))), .mk none none (.k (.store 1 (.tmp 21) (.tmp 19)))]) (.ref 3)
def T31n5 : XC := .seq (.seq (.ops [.mk (some 13) none (.k (.mov (.tmp 6))), .mk (some 14) none (.k (.cmp .lss .i64 (.tmp 13) (.const (.int .i64 0))))]) (.cond (.tmp 14) (.ref 1) .skip)) (.ref 4)
def T31n6 : XC := .seq (.ops [.mk (some 9) none (.k (.mov (.tmp 0))), .mk (some 10) none (.k (.mov (.tmp 1))), .mk (some 11) none (.k (.div .quo .i64 (.tmp 10) (.const (.int .i64 8)))), .mk (some 12) none (.call 46 [.tmp 9, .tmp 11]), .mk (some 6) none (.k (.mov (.tmp 12)))]) (.ref 5)
def T31n7 : XC := .seq (.seq (.ops [.mk (some 7) none (.k (.mov (.tmp 1))), .mk (some 8) none (.k (.cmp .lss .i64 (.tmp 7) (.const (.int .i64 0))))]) (.cond (.tmp 8) (.ref 0) .skip)) (.ref 6)
def T31 : Nat → XC
 | 0 => T31n0
 | 1 => T31n1
 | 2 => T31n2
 | 3 => T31n3
 | 4 => T31n4
 | 5 => T31n5
 | 6 => T31n6
 | 7 => T31n7
 | _ => .skip
theorem t31n0 : T31 0 = T31n0 := rfl
theorem t31n1 : T31 1 = T31n1 := rfl
theorem t31n2 : T31 2 = T31n2 := rfl
theorem t31n3 : T31 3 = T31n3 := rfl
theorem t31n4 : T31 4 = T31n4 := rfl
theorem t31n5 : T31 5 = T31n5 := rfl
theorem t31n6 : T31 6 = T31n6 := rfl
theorem t31n7 : T31 7 = T31n7 := rfl
def X31 : XC := .seq (.ops [.mk (some 4) none (.k (.mov (.const (.int .u64 0)))), .mk (some 5) none (.k (.mov (.const (.int .i64 0))))]) (.ref 7)
abbrev K31 : List Nat := [0, 1, 4, 5, 6, 8, 14]
theorem n31 : Try.f31.ntmps = 44 := by kernel_rfl
theorem r31 : resT Try.f31.results.toList = some [4, 5] := by kernel_rfl
theorem x31 : cmpF Try.prog Try.f31 = some (expand T31 9 X31) := by kernel_rfl
def T32n0 : XC := .seq (.ops [.mk (some 6) none (.k (.mov (.const (.int .i64 2))))]) .ret
def T32n1 : XC := .seq (.ops [.mk (some 6) none (.k (.mov (.const (.int .i64 20))))]) .ret
def T32n2 : XC := .seq (.ops [.mk (some 6) none (.k (.mov (.const (.int .i64 0))))]) .ret
def T32n3 : XC := .seq (.ops [.mk (some 45) none (.k (.mov (.tmp 0))), .mk (some 46) none (.k (.nilc (.tmp 45))), .mk (some 47) none (.k (.fld 2 (.tmp 46))), .mk (some 48) none (.k (.load [.slc] false (.tmp 47))), .mk (some 49) none (.k (.mov (.tmp 7))), .mk (some 50) none (.k (.mov (.tmp 1))), .mk (some 51) none (.k (.div .rem .i64 (.tmp 50) (.const (.int .i64 8)))), .mk (some 52) none (.k (.mov (.tmp 2))), .mk (some 53) none (.k (.idx 21 (.tmp 48) (.tmp 49))), .mk (some 54) none (.k (.fld 4 (.tmp 53))), .mk (some 55) none (.k (.idxA 8 1 (.tmp 54) (.tmp 51))), .mk none none (.k (.store 1 (.tmp 55) (.tmp 52)))]) (.ref 2)
def T32n4 : XC := .seq (.ops [.mk (some 34) none (.k (.mov (.tmp 0))), .mk (some 35) none (.k (.nilc (.tmp 34))), .mk (some 36) none (.k (.fld 2 (.tmp 35))), .mk (some 37) none (.k (.load [.slc] false (.tmp 36))), .mk (some 38) none (.k (.mov (.tmp 7))), .mk (some 39) none (.k (.mov (.tmp 0))), .mk (some 40) none (.k (.nilc (.tmp 39))), .mk (some 41) none (.k (.fld 3 (.tmp 40))), .mk (some 42) none (.k (.load [.int .i64] false (.tmp 41))), .mk (some 43) none (.k (.idx 21 (.tmp 37) (.tmp 38))), .mk (some 44) none (.k (.fld 20 (.tmp 43))), .mk none none (.k (.store 1 (.tmp 44) (.tmp 42)))]) (.ref 3)
def T32n5 : XC := .seq (.ops [.mk (some 27) none (.k (.mov (.tmp 0))), .mk (some 28) none (.k (.nilc (.tmp 27))), .mk (some 29) none (.k (.fld 3 (.tmp 28))), .mk (some 30) none (.k (.load [.int .i64] false (.tmp 29))), .mk (some 31) none (.k (.arith .add .i64 (.tmp 30) (.const (.int .i64 1)))), .mk (some 32) none (.k (.nilc (.tmp 27))), .mk (some 33) none (.k (.fld 3 (.tmp 32))), .mk none none (.k (.store 1 (.tmp 33) (.tmp 31)))]) (.ref 4)
def T32n6 : XC := .seq (.seq (.ops [.mk (some 14) none (.k (.mov (.tmp 7))), .mk (some 15) none (.k (.cmp .lss .i64 (.tmp 14) (.const (.int .i64 0)))), .mk (some 16) none (.k (.mov (.tmp 15))), .mk (some 17) (some (16, false)) (.k (.mov (.tmp 0))), .mk (some 18) (some (16, false)) (.k (.nilc (.tmp 17))), .mk (some 19) (some (16, false)) (.k (.fld 2 (.tmp 18))), .mk (some 20) (some (16, false)) (.k (.load [.slc] false (.tmp 19))), .mk (some 21) (some (16, false)) (.k (.mov (.tmp 7))), .mk (some 22) (some (16, false)) (.k (.idx 21 (.tmp 20) (.tmp 21))), .mk (some 23) (some (16, false)) (.k (.fld 1 (.tmp 22))), .mk (some 24) (some (16, false)) (.k (.load [.int .i64] false (.tmp 23))), .mk (some 25) (some (16, false)) (.k (.cmp .neq .i64 (.tmp 24) (.const (.int .i64 2)))), .mk (some 26) none (.k (.pick (.tmp 16) (.const (.bool true)) (.tmp 25)))]) (.cond (.tmp 26) (.ref 1) .skip)) (.ref 5)
def T32n7 : XC := .seq (.ops [.mk (some 10) none (.k (.mov (.tmp 0))), .mk (some 11) none (.k (.mov (.tmp 1))), .mk (some 12) none (.k (.div .quo .i64 (.tmp 11) (.const (.int .i64 8)))), .mk (some 13) none (.call 46 [.tmp 10, .tmp 12]), .mk (some 7) none (.k (.mov (.tmp 13)))]) (.ref 6)
def T32n8 : XC := .seq (.seq (.ops [.mk (some 8) none (.k (.mov (.tmp 1))), .mk (some 9) none (.k (.cmp .lss .i64 (.tmp 8) (.const (.int .i64 0))))]) (.cond (.tmp 9) (.ref 0) .skip)) (.ref 7)
def T32 : Nat → XC
 | 0 => T32n0
 | 1 => T32n1
 | 2 => T32n2
 | 3 => T32n3
 | 4 => T32n4
 | 5 => T32n5
 | 6 => T32n6
 | 7 => T32n7
 | 8 => T32n8
 | _ => .skip
theorem t32n0 : T32 0 = T32n0 := rfl
theorem t32n1 : T32 1 = T32n1 := rfl
theorem t32n2 : T32 2 = T32n2 := rfl
theorem t32n3 : T32 3 = T32n3 := rfl
theorem t32n4 : T32 4 = T32n4 := rfl
theorem t32n5 : T32 5 = T32n5 := rfl
theorem t32n6 : T32 6 = T32n6 := rfl
theorem t32n7 : T32 7 = T32n7 := rfl
theorem t32n8 : T32 8 = T32n8 := rfl
def X32 : XC := .seq (.ops [.mk (some 6) none (.k (.mov (.const (.int .i64 0))))]) (.ref 8)
abbrev K32 : List Nat := [0, 1, 2, 6, 7, 9, 26]
theorem n32 : Try.f32.ntmps = 56 := by kernel_rfl
theorem r32 : resT Try.f32.results.toList = some [6] := by kernel_rfl
theorem x32 : cmpF Try.prog Try.f32 = some (expand T32 10 X32) := by kernel_rfl
def T33n0 : XC := .seq (.ops [.mk (some 6) none (.k (.mov (.const (.int .i64 20))))]) .ret
def T33n1 : XC := .seq (.ops [.mk (some 6) none (.k (.mov (.const (.int .i64 0))))]) .ret
def T33n2 : XC := .seq (.ops [.mk (some 29) none (.k (.mov (.tmp 0))), .mk (some 30) none (.k (.nilc (.tmp 29))), .mk (some 31) none (.k (.fld 2 (.tmp 30))), .mk (some 32) none (.k (.load [.slc] false (.tmp 31))), .mk (some 33) none (.k (.mov (.tmp 7))), .mk (some 34) none (.k (.idx 21 (.tmp 32) (.tmp 33))), .mk (some 35) none (.k (.fld 2 (.tmp 34))), .mk none none (.k (.store 1 (.tmp 35) (.const (.bool true))))]) (.ref 1)
def T33n3 : XC := .ops [.mk (some 45) none (.k (.mov (.tmp 0))), .mk (some 46) none (.k (.nilc (.tmp 45))), .mk (some 47) none (.k (.fld 2 (.tmp 46))), .mk (some 48) none (.k (.load [.slc] false (.tmp 47))), .mk (some 49) none (.k (.mov (.tmp 7))), .mk (some 50) none (.k (.mov (.tmp 0))), .mk (some 51) none (.k (.nilc (.tmp 50))), .mk (some 52) none (.k (.fld 2 (.tmp 51))), .mk (some 53) none (.k (.load [.slc] false (.tmp 52))), .mk (some 54) none (.k (.mov (.tmp 7))), .mk (some 55) none (.k (.idx 21 (.tmp 53) (.tmp 54))), .mk (some 56) none (.k (.fld 4 (.tmp 55))), .mk (some 57) none (.k (.load [.int .u64, .int .u64, .int .u64, .int .u64, .int .u64, .int .u64, .int .u64, .int .u64] true (.tmp 56))), .mk (some 58) none (.k (.idx 21 (.tmp 48) (.tmp 49))), .mk (some 59) none (.k (.fld 12 (.tmp 58))), .mk none none (.k (.store 8 (.tmp 59) (.tmp 57)))]
def T33n4 : XC := .seq (.ops [.mk (some 6) none (.k (.mov (.const (.int .i64 0))))]) .ret
def T33n5 : XC := .seq (.ops [.mk (some 60) none (.k (.mov (.tmp 0))), .mk (some 61) none (.k (.nilc (.tmp 60))), .mk (some 62) none (.k (.fld 2 (.tmp 61))), .mk (some 63) none (.k (.load [.slc] false (.tmp 62))), .mk (some 64) none (.k (.mov (.tmp 7))), .mk (some 65) none (.k (.idx 21 (.tmp 63) (.tmp 64))), .mk (some 66) none (.k (.fld 3 (.tmp 65))), .mk none none (.k (.store 1 (.tmp 66) (.const (.bool true))))]) (.ref 4)
def T33n6 : XC := .seq (.seq (.ops [.mk (some 36) none (.k (.mov (.tmp 0))), .mk (some 37) none (.k (.nilc (.tmp 36))), .mk (some 38) none (.k (.fld 2 (.tmp 37))), .mk (some 39) none (.k (.load [.slc] false (.tmp 38))), .mk (some 40) none (.k (.mov (.tmp 7))), .mk (some 41) none (.k (.idx 21 (.tmp 39) (.tmp 40))), .mk (some 42) none (.k (.fld 3 (.tmp 41))), .mk (some 43) none (.k (.load [.bool] false (.tmp 42))), .mk (some 44) none (.k (.not (.tmp 43)))]) (.cond (.tmp 44) (.ref 3) .skip)) (.ref 5)
def T33n7 : XC := .seq (.seq (.ops [.mk (some 27) none (.k (.mov (.tmp 2))), .mk (some 28) none (.k (.not (.tmp 27)))]) (.cond (.tmp 28) (.ref 2) .skip)) (.ref 6)
def T33n8 : XC := .seq (.seq (.ops [.mk (some 11) none (.k (.mov (.tmp 7))), .mk (some 12) none (.k (.cmp .lss .i64 (.tmp 11) (.const (.int .i64 0)))), .mk (some 13) none (.k (.mov (.tmp 12))), .mk (some 14) (some (13, false)) (.k (.mov (.tmp 2))), .mk (some 15) (some (13, false)) (.k (.mov (.tmp 14))), .mk (some 16) (some (15, true)) (.k (.mov (.tmp 0))), .mk (some 17) (some (15, true)) (.k (.nilc (.tmp 16))), .mk (some 18) (some (15, true)) (.k (.fld 2 (.tmp 17))), .mk (some 19) (some (15, true)) (.k (.load [.slc] false (.tmp 18))), .mk (some 20) (some (15, true)) (.k (.mov (.tmp 7))), .mk (some 21) (some (15, true)) (.k (.idx 21 (.tmp 19) (.tmp 20))), .mk (some 22) (some (15, true)) (.k (.fld 1 (.tmp 21))), .mk (some 23) (some (15, true)) (.k (.load [.int .i64] false (.tmp 22))), .mk (some 24) (some (15, true)) (.k (.cmp .neq .i64 (.tmp 23) (.const (.int .i64 2)))), .mk (some 25) (some (13, false)) (.k (.pick (.tmp 15) (.tmp 24) (.const (.bool false)))), .mk (some 26) none (.k (.pick (.tmp 13) (.const (.bool true)) (.tmp 25)))]) (.cond (.tmp 26) (.ref 0) .skip)) (.ref 7)
def T33n9 : XC := .seq (.ops [.mk (some 8) none (.k (.mov (.tmp 0))), .mk (some 9) none (.k (.mov (.tmp 1))), .mk (some 10) none (.call 46 [.tmp 8, .tmp 9]), .mk (some 7) none (.k (.mov (.tmp 10)))]) (.ref 8)
def T33 : Nat → XC
 | 0 => T33n0
 | 1 => T33n1
 | 2 => T33n2
 | 3 => T33n3
 | 4 => T33n4
 | 5 => T33n5
 | 6 => T33n6
 | 7 => T33n7
 | 8 => T33n8
 | 9 => T33n9
 | _ => .skip
theorem t33n0 : T33 0 = T33n0 := rfl
theorem t33n1 : T33 1 = T33n1 := rfl
theorem t33n2 : T33 2 = T33n2 := rfl
theorem t33n3 : T33 3 = T33n3 := rfl
theorem t33n4 : T33 4 = T33n4 := rfl
theorem t33n5 : T33 5 = T33n5 := rfl
theorem t33n6 : T33 6 = T33n6 := rfl
theorem t33n7 : T33 7 = T33n7 := rfl
theorem t33n8 : T33 8 = T33n8 := rfl
theorem t33n9 : T33 9 = T33n9 := rfl
def X33 : XC := .seq (.ops [.mk (some 6) none (.k (.mov (.const (.int .i64 0))))]) (.ref 9)
abbrev K33 : List Nat := [0, 1, 2, 6, 7, 26, 28, 44]
theorem n33 : Try.f33.ntmps = 67 := by kernel_rfl
theorem r33 : resT Try.f33.results.toList = some [6] := by kernel_rfl
theorem x33 : cmpF Try.prog Try.f33 = some (expand T33 11 X33) := by kernel_rfl
def T34n0 : XC := .seq (.ops [.mk (some 23) none (.k (.build [.int .u64 0, .int .u64 0, .int .u64 0, .int .u64 0, .int .u64 0, .int .u64 0, .int .u64 0, .int .u64 0] [])), .mk none none (.k (.store 8 (.tmp 4) (.tmp 23))), .mk (some 5) none (.k (.mov (.const (.int .i64 20))))]) .ret
def T34n1 : XC := .seq (.ops [.mk (some 31) none (.k (.mov (.tmp 0))), .mk (some 32) none (.k (.nilc (.tmp 31))), .mk (some 33) none (.k (.fld 2 (.tmp 32))), .mk (some 34) none (.k (.load [.slc] false (.tmp 33))), .mk (some 35) none (.k (.mov (.tmp 6))), .mk (some 36) none (.k (.idx 21 (.tmp 34) (.tmp 35))), .mk (some 37) none (.k (.fld 4 (.tmp 36))), .mk (some 38) none (.k (.load [.int .u64, .int .u64, .int .u64, .int .u64, .int .u64, .int .u64, .int .u64, .int .u64] true (.tmp 37))), .mk none none (.k (.store 8 (.tmp 4) (.tmp 38))), .mk (some 5) none (.k (.mov (.const (.int .i64 0))))]) .ret
def T34n2 : XC := .seq (.ops [.mk (some 24) none (.k (.mov (.tmp 0))), .mk (some 25) none (.k (.nilc (.tmp 24))), .mk (some 26) none (.k (.fld 2 (.tmp 25))), .mk (some 27) none (.k (.load [.slc] false (.tmp 26))), .mk (some 28) none (.k (.mov (.tmp 6))), .mk (some 29) none (.k (.idx 21 (.tmp 27) (.tmp 28))), .mk (some 30) none (.k (.fld 1 (.tmp 29))), .mk none none (.k (.store 1 (.tmp 30) (.const (.int .i64 1))))]) (.ref 1)
def T34n3 : XC := .seq (.seq (.ops [.mk (some 10) none (.k (.mov (.tmp 6))), .mk (some 11) none (.k (.cmp .lss .i64 (.tmp 10) (.const (.int .i64 0)))), .mk (some 12) none (.k (.mov (.tmp 11))), .mk (some 13) (some (12, false)) (.k (.mov (.tmp 0))), .mk (some 14) (some (12, false)) (.k (.nilc (.tmp 13))), .mk (some 15) (some (12, false)) (.k (.fld 2 (.tmp 14))), .mk (some 16) (some (12, false)) (.k (.load [.slc] false (.tmp 15))), .mk (some 17) (some (12, false)) (.k (.mov (.tmp 6))), .mk (some 18) (some (12, false)) (.k (.idx 21 (.tmp 16) (.tmp 17))), .mk (some 19) (some (12, false)) (.k (.fld 1 (.tmp 18))), .mk (some 20) (some (12, false)) (.k (.load [.int .i64] false (.tmp 19))), .mk (some 21) (some (12, false)) (.k (.cmp .neq .i64 (.tmp 20) (.const (.int .i64 2)))), .mk (some 22) none (.k (.pick (.tmp 12) (.const (.bool true)) (.tmp 21)))]) (.cond (.tmp 22) (.ref 0) .skip)) (.ref 2)
def T34n4 : XC := .seq (.ops [.mk (some 7) none (.k (.mov (.tmp 0))), .mk (some 8) none (.k (.mov (.tmp 1))), .mk (some 9) none (.call 46 [.tmp 7, .tmp 8]), .mk (some 6) none (.k (.mov (.tmp 9)))]) (.ref 3)
def T34 : Nat → XC
 | 0 => T34n0
 | 1 => T34n1
 | 2 => T34n2
 | 3 => T34n3
 | 4 => T34n4
 | _ => .skip
theorem t34n0 : T34 0 = T34n0 := rfl
theorem t34n1 : T34 1 = T34n1 := rfl
theorem t34n2 : T34 2 = T34n2 := rfl
theorem t34n3 : T34 3 = T34n3 := rfl
theorem t34n4 : T34 4 = T34n4 := rfl
def X34 : XC := .seq (.ops [.mk (some 4) none (.k (.alloc 42 [.int .u64 0, .int .u64 0, .int .u64 0, .int .u64 0, .int .u64 0, .int .u64 0, .int .u64 0, .int .u64 0])), .mk (some 5) none (.k (.mov (.const (.int .i64 0))))]) (.ref 4)
abbrev K34 : List Nat := [0, 1, 4, 5, 6, 22]
theorem n34 : Try.f34.ntmps = 39 := by kernel_rfl
theorem r34 : rvOf Try.prog Try.f34.results.toList = some [RV.cell 4 8 true, RV.tmp 5] := by kernel_rfl
theorem x34 : cmpF Try.prog Try.f34 = some (expand T34 6 X34) := by kernel_rfl
def T35n0 : XC := .seq (.ops [.mk (some 6) none (.k (.mov (.const (.int .i64 20))))]) .ret
def T35n1 : XC := .seq (.ops [.mk (some 6) none (.k (.mov (.const (.int .i64 0))))]) .ret
def T35n2 : XC := .seq (.ops [.mk (some 31) none (.k (.mov (.tmp 0))), .mk (some 32) none (.k (.nilc (.tmp 31))), .mk (some 33) none (.k (.fld 2 (.tmp 32))), .mk (some 34) none (.k (.load [.slc] false (.tmp 33))), .mk (some 35) none (.k (.mov (.tmp 7))), .mk (some 36) none (.k (.load [.int .u64, .int .u64, .int .u64, .int .u64, .int .u64, .int .u64, .int .u64, .int .u64] true (.tmp 5))), .mk (some 37) none (.k (.idx 21 (.tmp 34) (.tmp 35))), .mk (some 38) none (.k (.fld 4 (.tmp 37))), .mk none none (.k (.store 8 (.tmp 38) (.tmp 36)))]) (.ref 1)
def T35n3 : XC := .seq (.ops [.mk (some 24) none (.k (.mov (.tmp 0))), .mk (some 25) none (.k (.nilc (.tmp 24))), .mk (some 26) none (.k (.fld 2 (.tmp 25))), .mk (some 27) none (.k (.load [.slc] false (.tmp 26))), .mk (some 28) none (.k (.mov (.tmp 7))), .mk (some 29) none (.k (.idx 21 (.tmp 27) (.tmp 28))), .mk (some 30) none (.k (.fld 1 (.tmp 29))), .mk none none (.k (.store 1 (.tmp 30) (.const (.int .i64 2))))]) (.ref 2)
def T35n4 : XC := .seq (.seq (.ops [.mk (some 11) none (.k (.mov (.tmp 7))), .mk (some 12) none (.k (.cmp .lss .i64 (.tmp 11) (.const (.int .i64 0)))), .mk (some 13) none (.k (.mov (.tmp 12))), .mk (some 14) (some (13, false)) (.k (.mov (.tmp 0))), .mk (some 15) (some (13, false)) (.k (.nilc (.tmp 14))), .mk (some 16) (some (13, false)) (.k (.fld 2 (.tmp 15))), .mk (some 17) (some (13, false)) (.k (.load [.slc] false (.tmp 16))), .mk (some 18) (some (13, false)) (.k (.mov (.tmp 7))), .mk (some 19) (some (13, false)) (.k (.idx 21 (.tmp 17) (.tmp 18))), .mk (some 20) (some (13, false)) (.k (.fld 1 (.tmp 19))), .mk (some 21) (some (13, false)) (.k (.load [.int .i64] false (.tmp 20))), .mk (some 22) (some (13, false)) (.k (.cmp .neq .i64 (.tmp 21) (.const (.int .i64 1)))), .mk (some 23) none (.k (.pick (.tmp 13) (.const (.bool true)) (.tmp 22)))]) (.cond (.tmp 23) (.ref 0) .skip)) (.ref 3)
def T35n5 : XC := .seq (.ops [.mk (some 8) none (.k (.mov (.tmp 0))), .mk (some 9) none (.k (.mov (.tmp 1))), .mk (some 10) none (.call 46 [.tmp 8, .tmp 9]), .mk (some 7) none (.k (.mov (.tmp 10)))]) (.ref 4)
def T35 : Nat → XC
 | 0 => T35n0
 | 1 => T35n1
 | 2 => T35n2
 | 3 => T35n3
 | 4 => T35n4
 | 5 => T35n5
 | _ => .skip
theorem t35n0 : T35 0 = T35n0 := rfl
theorem t35n1 : T35 1 = T35n1 := rfl
theorem t35n2 : T35 2 = T35n2 := rfl
theorem t35n3 : T35 3 = T35n3 := rfl
theorem t35n4 : T35 4 = T35n4 := rfl
theorem t35n5 : T35 5 = T35n5 := rfl
def X35 : XC := .seq (.ops [.mk (some 5) none (.k (.box 42 8 (.tmp 2))), .mk (some 6) none (.k (.mov (.const (.int .i64 0))))]) (.ref 5)
abbrev K35 : List Nat := [0, 1, 2, 5, 6, 7, 23]
theorem n35 : Try.f35.ntmps = 39 := by kernel_rfl
theorem r35 : resT Try.f35.results.toList = some [6] := by kernel_rfl
theorem x35 : cmpF Try.prog Try.f35 = some (expand T35 7 X35) := by kernel_rfl
def T36n0 : XC := .seq (.ops [.mk (some 13) none (.k (.build [.int .i64 0, .int .i64 0, .bool false, .bool false, .int .u64 0, .int .u64 0, .int .u64 0, .int .u64 0, .int .u64 0, .int .u64 0, .int .u64 0, .int .u64 0, .int .u64 0, .int .u64 0, .int .u64 0, .int .u64 0, .int .u64 0, .int .u64 0, .int .u64 0, .int .u64 0, .int .i64 0] [])), .mk none none (.k (.store 21 (.tmp 4) (.tmp 13))), .mk (some 5) none (.k (.mov (.const (.int .i64 20))))]) .ret
def T36n1 : XC := .seq (.ops [.mk (some 24) none (.k (.load [.int .i64, .int .i64, .bool, .bool, .int .u64, .int .u64, .int .u64, .int .u64, .int .u64, .int .u64, .int .u64, .int .u64, .int .u64, .int .u64, .int .u64, .int .u64, .int .u64, .int .u64, .int .u64, .int .u64, .int .i64] true (.tmp 7))), .mk none none (.k (.store 21 (.tmp 4) (.tmp 24))), .mk (some 5) none (.k (.mov (.const (.int .i64 0))))]) .ret
def T36n2 : XC := .seq (.ops [.mk (some 21) none (.k (.mov (.tmp 0))), .mk (some 22) none (.k (.mov (.tmp 6))), .mk (some 23) none (.call 47 [.tmp 21, .tmp 22])]) (.ref 1)
def T36n3 : XC := .seq (.ops [.mk (some 14) none (.k (.mov (.tmp 0))), .mk (some 15) none (.k (.nilc (.tmp 14))), .mk (some 16) none (.k (.fld 2 (.tmp 15))), .mk (some 17) none (.k (.load [.slc] false (.tmp 16))), .mk (some 18) none (.k (.mov (.tmp 6))), .mk (some 19) none (.k (.idx 21 (.tmp 17) (.tmp 18))), .mk (some 20) none (.k (.load [.int .i64, .int .i64, .bool, .bool, .int .u64, .int .u64, .int .u64, .int .u64, .int .u64, .int .u64, .int .u64, .int .u64, .int .u64, .int .u64, .int .u64, .int .u64, .int .u64, .int .u64, .int .u64, .int .u64, .int .i64] true (.tmp 19))), .mk (some 7) none (.k (.alloc 44 [.int .i64 0, .int .i64 0, .bool false, .bool false, .int .u64 0, .int .u64 0, .int .u64 0, .int .u64 0, .int .u64 0, .int .u64 0, .int .u64 0, .int .u64 0, .int .u64 0, .int .u64 0, .int .u64 0, .int .u64 0, .int .u64 0, .int .u64 0, .int .u64 0, .int .u64 0, .int .i64 0])), .mk none none (.k (.store 21 (.tmp 7) (.tmp 20)))]) (.ref 2)
def T36n4 : XC := .seq (.seq (.ops [.mk (some 11) none (.k (.mov (.tmp 6))), .mk (some 12) none (.k (.cmp .lss .i64 (.tmp 11) (.const (.int .i64 0))))]) (.cond (.tmp 12) (.ref 0) .skip)) (.ref 3)
def T36n5 : XC := .seq (.ops [.mk (some 8) none (.k (.mov (.tmp 0))), .mk (some 9) none (.k (.mov (.tmp 1))), .mk (some 10) none (.call 46 [.tmp 8, .tmp 9]), .mk (some 6) none (.k (.mov (.tmp 10)))]) (.ref 4)
def T36 : Nat → XC
 | 0 => T36n0
 | 1 => T36n1
 | 2 => T36n2
 | 3 => T36n3
 | 4 => T36n4
 | 5 => T36n5
 | _ => .skip
theorem t36n0 : T36 0 = T36n0 := rfl
theorem t36n1 : T36 1 = T36n1 := rfl
theorem t36n2 : T36 2 = T36n2 := rfl
theorem t36n3 : T36 3 = T36n3 := rfl
theorem t36n4 : T36 4 = T36n4 := rfl
theorem t36n5 : T36 5 = T36n5 := rfl
def X36 : XC := .seq (.ops [.mk (some 4) none (.k (.alloc 44 [.int .i64 0, .int .i64 0, .bool false, .bool false, .int .u64 0, .int .u64 0, .int .u64 0, .int .u64 0, .int .u64 0, .int .u64 0, .int .u64 0, .int .u64 0, .int .u64 0, .int .u64 0, .int .u64 0, .int .u64 0, .int .u64 0, .int .u64 0, .int .u64 0, .int .u64 0, .int .i64 0])), .mk (some 5) none (.k (.mov (.const (.int .i64 0))))]) (.ref 5)
abbrev K36 : List Nat := [0, 1, 4, 5, 6, 7, 12]
theorem n36 : Try.f36.ntmps = 25 := by kernel_rfl
theorem r36 : rvOf Try.prog Try.f36.results.toList = some [RV.cell 4 21 true, RV.tmp 5] := by kernel_rfl
theorem x36 : cmpF Try.prog Try.f36 = some (expand T36 7 X36) := by kernel_rfl
def T37n0 : XC := .ops [.mk (some 26) none (.k (.mov (.tmp 0))), .mk (some 27) none (.k (.nilc (.tmp 26))), .mk (some 28) none (.k (.fld 2 (.tmp 27))), .mk (some 29) none (.k (.load [.slc] false (.tmp 28))), .mk (some 30) none (.k (.mov (.tmp 2))), .mk (some 31) none (.k (.build [.int .u64 0, .int .u64 0, .int .u64 0, .int .u64 0, .int .u64 0, .int .u64 0, .int .u64 0, .int .u64 0] [])), .mk (some 32) none (.k (.idx 21 (.tmp 29) (.tmp 30))), .mk (some 33) none (.k (.fld 12 (.tmp 32))), .mk none none (.k (.store 8 (.tmp 33) (.tmp 31)))]
def T37n1 : XC := .seq (.ops [.mk (some 19) none (.k (.mov (.tmp 0))), .mk (some 20) none (.k (.nilc (.tmp 19))), .mk (some 21) none (.k (.fld 2 (.tmp 20))), .mk (some 22) none (.k (.load [.slc] false (.tmp 21))), .mk (some 23) none (.k (.mov (.tmp 2))), .mk (some 24) none (.k (.idx 21 (.tmp 22) (.tmp 23))), .mk (some 25) none (.k (.fld 3 (.tmp 24))), .mk none none (.k (.store 1 (.tmp 25) (.const (.bool false))))]) (.ref 0)
def T37n2 : XC := .ops [.mk (some 10) none (.k (.mov (.tmp 2))), .mk (some 11) none (.k (.arith .add .i64 (.tmp 10) (.const (.int .i64 1)))), .mk (some 2) none (.k (.mov (.tmp 11)))]
def T37n3 : XC := .seq (.blk 1 (.seq (.ops [.mk (some 12) none (.k (.mov (.tmp 0))), .mk (some 13) none (.k (.nilc (.tmp 12))), .mk (some 14) none (.k (.fld 2 (.tmp 13))), .mk (some 15) none (.k (.load [.slc] false (.tmp 14))), .mk (some 16) none (.k (.mov (.tmp 2))), .mk (some 17) none (.k (.idx 21 (.tmp 15) (.tmp 16))), .mk (some 18) none (.k (.fld 2 (.tmp 17))), .mk none none (.k (.store 1 (.tmp 18) (.const (.bool false))))]) (.ref 1))) (.ref 2)
def T37n4 : XC := .seq (.seq (.ops [.mk (some 3) none (.k (.mov (.tmp 2))), .mk (some 4) none (.k (.mov (.tmp 0))), .mk (some 5) none (.k (.nilc (.tmp 4))), .mk (some 6) none (.k (.fld 2 (.tmp 5))), .mk (some 7) none (.k (.load [.slc] false (.tmp 6))), .mk (some 8) none (.k (.lenS (.tmp 7))), .mk (some 9) none (.k (.cmp .lss .i64 (.tmp 3) (.tmp 8)))]) (.cond (.tmp 9) .skip (.exit 0))) (.ref 3)
def T37 : Nat → XC
 | 0 => T37n0
 | 1 => T37n1
 | 2 => T37n2
 | 3 => T37n3
 | 4 => T37n4
 | _ => .skip
theorem t37n0 : T37 0 = T37n0 := rfl
theorem t37n1 : T37 1 = T37n1 := rfl
theorem t37n2 : T37 2 = T37n2 := rfl
theorem t37n3 : T37 3 = T37n3 := rfl
theorem t37n4 : T37 4 = T37n4 := rfl
def X37 : XC := .seq (.ops [.mk (some 2) none (.k (.mov (.const (.int .i64 0))))]) (.blk 0 (.loop (.ref 4)))
abbrev K37 : List Nat := [0, 2, 9]
theorem n37 : Try.f37.ntmps = 34 := by kernel_rfl
theorem r37 : resT Try.f37.results.toList = some [] := by kernel_rfl
theorem x37 : cmpF Try.prog Try.f37 = some (expand T37 6 X37) := by kernel_rfl
def T38n0 : XC := .ops [.mk (some 20) none (.k (.mov (.tmp 0))), .mk (some 21) none (.k (.nilc (.tmp 20))), .mk (some 22) none (.k (.fld 2 (.tmp 21))), .mk (some 23) none (.k (.load [.slc] false (.tmp 22))), .mk (some 24) none (.k (.mov (.tmp 2))), .mk (some 25) none (.k (.mov (.tmp 0))), .mk (some 26) none (.k (.nilc (.tmp 25))), .mk (some 27) none (.k (.fld 2 (.tmp 26))), .mk (some 28) none (.k (.load [.slc] false (.tmp 27))), .mk (some 29) none (.k (.mov (.tmp 2))), .mk (some 30) none (.k (.idx 21 (.tmp 28) (.tmp 29))), .mk (some 31) none (.k (.fld 12 (.tmp 30))), .mk (some 32) none (.k (.load [.int .u64, .int .u64, .int .u64, .int .u64, .int .u64, .int .u64, .int .u64, .int .u64] true (.tmp 31))), .mk (some 33) none (.k (.idx 21 (.tmp 23) (.tmp 24))), .mk (some 34) none (.k (.fld 4 (.tmp 33))), .mk none none (.k (.store 8 (.tmp 34) (.tmp 32)))]
def T38n1 : XC := .ops [.mk (some 10) none (.k (.mov (.tmp 2))), .mk (some 11) none (.k (.arith .add .i64 (.tmp 10) (.const (.int .i64 1)))), .mk (some 2) none (.k (.mov (.tmp 11)))]
def T38n2 : XC := .seq (.blk 1 (.seq (.ops [.mk (some 12) none (.k (.mov (.tmp 0))), .mk (some 13) none (.k (.nilc (.tmp 12))), .mk (some 14) none (.k (.fld 2 (.tmp 13))), .mk (some 15) none (.k (.load [.slc] false (.tmp 14))), .mk (some 16) none (.k (.mov (.tmp 2))), .mk (some 17) none (.k (.idx 21 (.tmp 15) (.tmp 16))), .mk (some 18) none (.k (.fld 3 (.tmp 17))), .mk (some 19) none (.k (.load [.bool] false (.tmp 18)))]) (.cond (.tmp 19) (.ref 0) .skip))) (.ref 1)
def T38n3 : XC := .seq (.seq (.ops [.mk (some 3) none (.k (.mov (.tmp 2))), .mk (some 4) none (.k (.mov (.tmp 0))), .mk (some 5) none (.k (.nilc (.tmp 4))), .mk (some 6) none (.k (.fld 2 (.tmp 5))), .mk (some 7) none (.k (.load [.slc] false (.tmp 6))), .mk (some 8) none (.k (.lenS (.tmp 7))), .mk (some 9) none (.k (.cmp .lss .i64 (.tmp 3) (.tmp 8)))]) (.cond (.tmp 9) .skip (.exit 0))) (.ref 2)
def T38 : Nat → XC
 | 0 => T38n0
 | 1 => T38n1
 | 2 => T38n2
 | 3 => T38n3
 | _ => .skip
theorem t38n0 : T38 0 = T38n0 := rfl
theorem t38n1 : T38 1 = T38n1 := rfl
theorem t38n2 : T38 2 = T38n2 := rfl
theorem t38n3 : T38 3 = T38n3 := rfl
def X38 : XC := .seq (.seq (.ops [.mk (some 2) none (.k (.mov (.const (.int .i64 0))))]) (.blk 0 (.loop (.ref 3)))) (.ops [.mk (some 35) none (.k (.mov (.tmp 0))), .mk (some 36) none (.call 37 [.tmp 35])])
abbrev K38 : List Nat := [0, 2, 9, 19]
theorem n38 : Try.f38.ntmps = 37 := by kernel_rfl
theorem r38 : resT Try.f38.results.toList = some [] := by kernel_rfl
theorem x38 : cmpF Try.prog Try.f38 = some (expand T38 5 X38) := by kernel_rfl
def T39n0 : XC := .seq (.ops [.mk (some 12) none (.k (.build [.int .i64 0, .int .i64 0, .bool false, .bool false, .int .u64 0, .int .u64 0, .int .u64 0, .int .u64 0, .int .u64 0, .int .u64 0, .int .u64 0, .int .u64 0, .int .u64 0, .int .u64 0, .int .u64 0, .int .u64 0, .int .u64 0, .int .u64 0, .int .u64 0, .int .u64 0, .int .i64 0] [])), .mk none none (.k (.store 21 (.tmp 4) (.tmp 12))), .mk (some 5) none (.k (.mov (.const (.bool false))))]) .ret
def T39n1 : XC := .seq (.ops [.mk (some 13) none (.k (.mov (.tmp 0))), .mk (some 14) none (.k (.nilc (.tmp 13))), .mk (some 15) none (.k (.fld 2 (.tmp 14))), .mk (some 16) none (.k (.load [.slc] false (.tmp 15))), .mk (some 17) none (.k (.mov (.tmp 6))), .mk (some 18) none (.k (.idx 21 (.tmp 16) (.tmp 17))), .mk (some 19) none (.k (.load [.int .i64, .int .i64, .bool, .bool, .int .u64, .int .u64, .int .u64, .int .u64, .int .u64, .int .u64, .int .u64, .int .u64, .int .u64, .int .u64, .int .u64, .int .u64, .int .u64, .int .u64, .int .u64, .int .u64, .int .i64] true (.tmp 18))), .mk none none (.k (.store 21 (.tmp 4) (.tmp 19))), .mk (some 5) none (.k (.mov (.const (.bool true))))]) .ret
def T39n2 : XC := .seq (.seq (.ops [.mk (some 10) none (.k (.mov (.tmp 6))), .mk (some 11) none (.k (.cmp .lss .i64 (.tmp 10) (.const (.int .i64 0))))]) (.cond (.tmp 11) (.ref 0) .skip)) (.ref 1)
def T39n3 : XC := .seq (.ops [.mk (some 7) none (.k (.mov (.tmp 0))), .mk (some 8) none (.k (.mov (.tmp 1))), .mk (some 9) none (.call 46 [.tmp 7, .tmp 8]), .mk (some 6) none (.k (.mov (.tmp 9)))]) (.ref 2)
def T39 : Nat → XC
 | 0 => T39n0
 | 1 => T39n1
 | 2 => T39n2
 | 3 => T39n3
 | _ => .skip
theorem t39n0 : T39 0 = T39n0 := rfl
theorem t39n1 : T39 1 = T39n1 := rfl
theorem t39n2 : T39 2 = T39n2 := rfl
theorem t39n3 : T39 3 = T39n3 := rfl
def X39 : XC := .seq (.ops [.mk (some 4) none (.k (.alloc 44 [.int .i64 0, .int .i64 0, .bool false, .bool false, .int .u64 0, .int .u64 0, .int .u64 0, .int .u64 0, .int .u64 0, .int .u64 0, .int .u64 0, .int .u64 0, .int .u64 0, .int .u64 0, .int .u64 0, .int .u64 0, .int .u64 0, .int .u64 0, .int .u64 0, .int .u64 0, .int .i64 0])), .mk (some 5) none (.k (.mov (.const (.bool false))))]) (.ref 3)
abbrev K39 : List Nat := [0, 1, 4, 5, 6, 11]
theorem n39 : Try.f39.ntmps = 20 := by kernel_rfl
theorem r39 : rvOf Try.prog Try.f39.results.toList = some [RV.cell 4 21 true, RV.tmp 5] := by kernel_rfl
theorem x39 : cmpF Try.prog Try.f39 = some (expand T39 5 X39) := by kernel_rfl
def T46n0 : XC := .seq (.ops [.mk (some 25) none (.k (.mov (.tmp 5))), .mk (some 4) none (.k (.mov (.tmp 25)))]) .ret
def T46n1 : XC := .ops [.mk (some 13) none (.k (.mov (.tmp 5))), .mk (some 14) none (.k (.arith .add .i64 (.tmp 13) (.const (.int .i64 1)))), .mk (some 5) none (.k (.mov (.tmp 14)))]
def T46n2 : XC := .seq (.blk 1 (.seq (.ops [.mk (some 15) none (.k (.mov (.tmp 0))), .mk (some 16) none (.k (.nilc (.tmp 15))), .mk (some 17) none (.k (.fld 2 (.tmp 16))), .mk (some 18) none (.k (.load [.slc] false (.tmp 17))), .mk (some 19) none (.k (.mov (.tmp 5))), .mk (some 20) none (.k (.idx 21 (.tmp 18) (.tmp 19))), .mk (some 21) none (.k (.fld 0 (.tmp 20))), .mk (some 22) none (.k (.load [.int .i64] false (.tmp 21))), .mk (some 23) none (.k (.mov (.tmp 1))), .mk (some 24) none (.k (.cmp .eql .i64 (.tmp 22) (.tmp 23)))]) (.cond (.tmp 24) (.ref 0) .skip))) (.ref 1)
def T46n3 : XC := .seq (.seq (.ops [.mk (some 6) none (.k (.mov (.tmp 5))), .mk (some 7) none (.k (.mov (.tmp 0))), .mk (some 8) none (.k (.nilc (.tmp 7))), .mk (some 9) none (.k (.fld 2 (.tmp 8))), .mk (some 10) none (.k (.load [.slc] false (.tmp 9))), .mk (some 11) none (.k (.lenS (.tmp 10))), .mk (some 12) none (.k (.cmp .lss .i64 (.tmp 6) (.tmp 11)))]) (.cond (.tmp 12) .skip (.exit 0))) (.ref 2)
def T46n4 : XC := .seq (.ops [.mk (some 4) none (.k (.mov (.const (.int .i64 (-1)))))]) .ret
def T46n5 : XC := .seq (.seq (.ops [.mk (some 5) none (.k (.mov (.const (.int .i64 0))))]) (.blk 0 (.loop (.ref 3)))) (.ref 4)
def T46 : Nat → XC
 | 0 => T46n0
 | 1 => T46n1
 | 2 => T46n2
 | 3 => T46n3
 | 4 => T46n4
 | 5 => T46n5
 | _ => .skip
theorem t46n0 : T46 0 = T46n0 := rfl
theorem t46n1 : T46 1 = T46n1 := rfl
theorem t46n2 : T46 2 = T46n2 := rfl
theorem t46n3 : T46 3 = T46n3 := rfl
theorem t46n4 : T46 4 = T46n4 := rfl
theorem t46n5 : T46 5 = T46n5 := rfl
def X46 : XC := .seq (.ops [.mk (some 4) none (.k (.mov (.const (.int .i64 0))))]) (.ref 5)
abbrev K46 : List Nat := [0, 1, 4, 5, 12, 24]
theorem n46 : Try.f46.ntmps = 26 := by kernel_rfl
theorem r46 : resT Try.f46.results.toList = some [4] := by kernel_rfl
theorem x46 : cmpF Try.prog Try.f46 = some (expand T46 7 X46) := by kernel_rfl
def T47n0 : XC := .ops [.mk (some 13) none (.k (.mov (.tmp 0))), .mk (some 14) none (.k (.mov (.tmp 4))), .mk (some 15) none (.k (.mov (.tmp 0))), .mk (some 16) none (.k (.nilc (.tmp 15))), .mk (some 17) none (.k (.fld 2 (.tmp 16))), .mk (some 18) none (.k (.load [.slc] false (.tmp 17))), .mk (some 19) none (.k (.mov (.tmp 1))), .mk (some 20) none (.k (.arith .add .i64 (.tmp 19) (.const (.int .i64 1)))), .mk (some 21) none (.k (.sub 21 (.tmp 18) (some (.tmp 20)) none)), .mk (some 22) none (.k (.app 44 21 160 (.tmp 14) (.tmp 21))), .mk (some 23) none (.k (.nilc (.tmp 13))), .mk (some 24) none (.k (.fld 2 (.tmp 23))), .mk none none (.k (.store 1 (.tmp 24) (.tmp 22)))]
def T47n1 : XC := .seq (.ops [.mk (some 5) none (.k (.mov (.tmp 4))), .mk (some 6) none (.k (.mov (.tmp 0))), .mk (some 7) none (.k (.nilc (.tmp 6))), .mk (some 8) none (.k (.fld 2 (.tmp 7))), .mk (some 9) none (.k (.load [.slc] false (.tmp 8))), .mk (some 10) none (.k (.mov (.tmp 1))), .mk (some 11) none (.k (.sub 21 (.tmp 9) none (some (.tmp 10)))), .mk (some 12) none (.k (.app 44 21 160 (.tmp 5) (.tmp 11))), .mk (some 4) none (.k (.mov (.tmp 12)))]) (.ref 0)
def T47 : Nat → XC
 | 0 => T47n0
 | 1 => T47n1
 | _ => .skip
theorem t47n0 : T47 0 = T47n0 := rfl
theorem t47n1 : T47 1 = T47n1 := rfl
def X47 : XC := .seq (.ops [.mk (some 4) none (.k (.mov (.const (.slice none 0 0))))]) (.ref 1)
abbrev K47 : List Nat := [0, 1, 4]
theorem n47 : Try.f47.ntmps = 25 := by kernel_rfl
theorem r47 : resT Try.f47.results.toList = some [] := by kernel_rfl
theorem x47 : cmpF Try.prog Try.f47 = some (expand T47 3 X47) := by kernel_rfl
def T48n0 : XC := .blk 1 (.ops [.mk (some 26) none (.k (.mov (.tmp 4))), .mk (some 27) none (.k (.arith .add .i64 (.tmp 26) (.const (.int .i64 1)))), .mk (some 4) none (.k (.mov (.tmp 27)))])
def T48n1 : XC := .seq (.seq (.ops [.mk (some 6) none (.k (.mov (.tmp 4))), .mk (some 7) none (.k (.mov (.tmp 0))), .mk (some 8) none (.k (.nilc (.tmp 7))), .mk (some 9) none (.k (.fld 2 (.tmp 8))), .mk (some 10) none (.k (.load [.slc] false (.tmp 9))), .mk (some 11) none (.k (.lenS (.tmp 10))), .mk (some 12) none (.k (.cmp .lss .i64 (.tmp 6) (.tmp 11))), .mk (some 13) none (.k (.mov (.tmp 12))), .mk (some 14) (some (13, true)) (.k (.mov (.tmp 0))), .mk (some 15) (some (13, true)) (.k (.nilc (.tmp 14))), .mk (some 16) (some (13, true)) (.k (.fld 2 (.tmp 15))), .mk (some 17) (some (13, true)) (.k (.load [.slc] false (.tmp 16))), .mk (some 18) (some (13, true)) (.k (.mov (.tmp 4))), .mk (some 19) (some (13, true)) (.k (.idx 21 (.tmp 17) (.tmp 18))), .mk (some 20) (some (13, true)) (.k (.fld 0 (.tmp 19))), .mk (some 21) (some (13, true)) (.k (.load [.int .i64] false (.tmp 20))), .mk (some 22) (some (13, true)) (.k (.fld 0 (.tmp 3))), .mk (some 23) (some (13, true)) (.k (.load [.int .i64] false (.tmp 22))), .mk (some 24) (some (13, true)) (.k (.cmp .lss .i64 (.tmp 21) (.tmp 23))), .mk (some 25) none (.k (.pick (.tmp 13) (.tmp 24) (.const (.bool false))))]) (.cond (.tmp 25) .skip (.exit 0))) (.ref 0)
def T48n2 : XC := .ops [.mk (some 40) none (.k (.mov (.tmp 0))), .mk (some 41) none (.k (.mov (.tmp 5))), .mk (some 42) none (.k (.mov (.tmp 0))), .mk (some 43) none (.k (.nilc (.tmp 42))), .mk (some 44) none (.k (.fld 2 (.tmp 43))), .mk (some 45) none (.k (.load [.slc] false (.tmp 44))), .mk (some 46) none (.k (.mov (.tmp 4))), .mk (some 47) none (.k (.sub 21 (.tmp 45) (some (.tmp 46)) none)), .mk (some 48) none (.k (.app 44 21 160 (.tmp 41) (.tmp 47))), .mk (some 49) none (.k (.nilc (.tmp 40))), .mk (some 50) none (.k (.fld 2 (.tmp 49))), .mk none none (.k (.store 1 (.tmp 50) (.tmp 48)))]
def T48n3 : XC := .seq (.ops [.mk (some 36) none (.k (.mov (.tmp 5))), .mk (some 37) none (.k (.load [.int .i64, .int .i64, .bool, .bool, .int .u64, .int .u64, .int .u64, .int .u64, .int .u64, .int .u64, .int .u64, .int .u64, .int .u64, .int .u64, .int .u64, .int .u64, .int .u64, .int .u64, .int .u64, .int .u64, .int .i64] true (.tmp 3))), .mk (some 38) none (.k (.buildS 44 1 21 [.int .i64 0, .int .i64 0, .bool false, .bool false, .int .u64 0, .int .u64 0, .int .u64 0, .int .u64 0, .int .u64 0, .int .u64 0, .int .u64 0, .int .u64 0, .int .u64 0, .int .u64 0, .int .u64 0, .int .u64 0, .int .u64 0, .int .u64 0, .int .u64 0, .int .u64 0, .int .i64 0] [(0, .tmp 37)])), .mk (some 39) none (.k (.app 44 21 160 (.tmp 36) (.tmp 38))), .mk (some 5) none (.k (.mov (.tmp 39)))]) (.ref 2)
def T48n4 : XC := .seq (.ops [.mk (some 28) none (.k (.mov (.tmp 5))), .mk (some 29) none (.k (.mov (.tmp 0))), .mk (some 30) none (.k (.nilc (.tmp 29))), .mk (some 31) none (.k (.fld 2 (.tmp 30))), .mk (some 32) none (.k (.load [.slc] false (.tmp 31))), .mk (some 33) none (.k (.mov (.tmp 4))), .mk (some 34) none (.k (.sub 21 (.tmp 32) none (some (.tmp 33)))), .mk (some 35) none (.k (.app 44 21 160 (.tmp 28) (.tmp 34))), .mk (some 5) none (.k (.mov (.tmp 35)))]) (.ref 3)
def T48n5 : XC := .seq (.ops [.mk (some 5) none (.k (.mov (.const (.slice none 0 0))))]) (.ref 4)
def T48n6 : XC := .seq (.blk 0 (.loop (.ref 1))) (.ref 5)
def T48n7 : XC := .seq (.ops [.mk (some 4) none (.k (.mov (.const (.int .i64 0))))]) (.ref 6)
def T48 : Nat → XC
 | 0 => T48n0
 | 1 => T48n1
 | 2 => T48n2
 | 3 => T48n3
 | 4 => T48n4
 | 5 => T48n5
 | 6 => T48n6
 | 7 => T48n7
 | _ => .skip
theorem t48n0 : T48 0 = T48n0 := rfl
theorem t48n1 : T48 1 = T48n1 := rfl
theorem t48n2 : T48 2 = T48n2 := rfl
theorem t48n3 : T48 3 = T48n3 := rfl
theorem t48n4 : T48 4 = T48n4 := rfl
theorem t48n5 : T48 5 = T48n5 := rfl
theorem t48n6 : T48 6 = T48n6 := rfl
theorem t48n7 : T48 7 = T48n7 := rfl
def X48 : XC := .seq (.ops [.mk (some 3) none (.k (.box 44 21 (.tmp 1)))]) (.ref 7)
abbrev K48 : List Nat := [0, 1, 3, 4, 5, 25]
theorem n48 : Try.f48.ntmps = 51 := by kernel_rfl
theorem r48 : resT Try.f48.results.toList = some [] := by kernel_rfl
theorem x48 : cmpF Try.prog Try.f48 = some (expand T48 9 X48) := by kernel_rfl
def T18n0 : XC := .seq (.ops [.mk (some 4) none (.k (.mov (.const (.bool false))))]) .ret
def T18n1 : XC := .seq (.ops [.mk (some 4) none (.k (.mov (.const (.bool false))))]) .ret
def T18n2 : XC := .ops [.mk (some 15) none (.k (.mov (.tmp 5))), .mk (some 16) none (.k (.arith .add .i64 (.tmp 15) (.const (.int .i64 1)))), .mk (some 5) none (.k (.mov (.tmp 16)))]
def T18n3 : XC := .seq (.blk 1 (.seq (.ops [.mk (some 17) none (.k (.mov (.tmp 0))), .mk (some 18) none (.k (.mov (.tmp 5))), .mk (some 19) none (.k (.idx 21 (.tmp 17) (.tmp 18))), .mk (some 20) none (.k (.load [.int .i64, .int .i64, .bool, .bool, .int .u64, .int .u64, .int .u64, .int .u64, .int .u64, .int .u64, .int .u64, .int .u64, .int .u64, .int .u64, .int .u64, .int .u64, .int .u64, .int .u64, .int .u64, .int .u64, .int .i64] true (.tmp 19))), .mk (some 21) none (.k (.mov (.tmp 1))), .mk (some 22) none (.k (.mov (.tmp 5))), .mk (some 23) none (.k (.idx 21 (.tmp 21) (.tmp 22))), .mk (some 24) none (.k (.load [.int .i64, .int .i64, .bool, .bool, .int .u64, .int .u64, .int .u64, .int .u64, .int .u64, .int .u64, .int .u64, .int .u64, .int .u64, .int .u64, .int .u64, .int .u64, .int .u64, .int .u64, .int .u64, .int .u64, .int .i64] true (.tmp 23))), .mk (some 25) none (.k (.eqa true [.int .i64, .int .i64, .bool, .bool, .int .u64, .int .u64, .int .u64, .int .u64, .int .u64, .int .u64, .int .u64, .int .u64, .int .u64, .int .u64, .int .u64, .int .u64, .int .u64, .int .u64, .int .u64, .int .u64, .int .i64] (.tmp 20) (.tmp 24)))]) (.cond (.tmp 25) (.ref 1) .skip))) (.ref 2)
def T18n4 : XC := .seq (.seq (.ops [.mk (some 11) none (.k (.mov (.tmp 5))), .mk (some 12) none (.k (.mov (.tmp 0))), .mk (some 13) none (.k (.lenS (.tmp 12))), .mk (some 14) none (.k (.cmp .lss .i64 (.tmp 11) (.tmp 13)))]) (.cond (.tmp 14) .skip (.exit 0))) (.ref 3)
def T18n5 : XC := .seq (.ops [.mk (some 4) none (.k (.mov (.const (.bool true))))]) .ret
def T18n6 : XC := .seq (.seq (.ops [.mk (some 5) none (.k (.mov (.const (.int .i64 0))))]) (.blk 0 (.loop (.ref 4)))) (.ref 5)
def T18n7 : XC := .seq (.seq (.ops [.mk (some 6) none (.k (.mov (.tmp 0))), .mk (some 7) none (.k (.lenS (.tmp 6))), .mk (some 8) none (.k (.mov (.tmp 1))), .mk (some 9) none (.k (.lenS (.tmp 8))), .mk (some 10) none (.k (.cmp .neq .i64 (.tmp 7) (.tmp 9)))]) (.cond (.tmp 10) (.ref 0) .skip)) (.ref 6)
def T18 : Nat → XC
 | 0 => T18n0
 | 1 => T18n1
 | 2 => T18n2
 | 3 => T18n3
 | 4 => T18n4
 | 5 => T18n5
 | 6 => T18n6
 | 7 => T18n7
 | _ => .skip
theorem t18n0 : T18 0 = T18n0 := rfl
theorem t18n1 : T18 1 = T18n1 := rfl
theorem t18n2 : T18 2 = T18n2 := rfl
theorem t18n3 : T18 3 = T18n3 := rfl
theorem t18n4 : T18 4 = T18n4 := rfl
theorem t18n5 : T18 5 = T18n5 := rfl
theorem t18n6 : T18 6 = T18n6 := rfl
theorem t18n7 : T18 7 = T18n7 := rfl
def X18 : XC := .seq (.ops [.mk (some 4) none (.k (.mov (.const (.bool false))))]) (.ref 7)
abbrev K18 : List Nat := [0, 1, 4, 5, 10, 14, 25]
theorem n18 : Try.f18.ntmps = 26 := by kernel_rfl
theorem r18 : resT Try.f18.results.toList = some [4] := by kernel_rfl
theorem x18 : cmpF Try.prog Try.f18 = some (expand T18 9 X18) := by kernel_rfl
end Go.Proofs.Ytimmobbginjkfaa
