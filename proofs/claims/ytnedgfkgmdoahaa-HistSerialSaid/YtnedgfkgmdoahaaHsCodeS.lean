/- Printed by program: the small code of functions, and that it is theirs. -/
import Derived.Test.YtnedgfkgmdoahaaSxStill
import Derived.Test.YtnedgfkgmdoahaaProg
import Derived.KernelRfl
set_option linter.unusedSimpArgs false
set_option linter.unusedVariables false
set_option linter.unnecessarySimpa false
namespace Go.Proofs.Ytnedgfkgmdoahaa
open Go Go.Sx
set_option maxRecDepth 100000
def T11n0 : XC := .seq (.ops [.mk (some 31) none (.k (.mov (.tmp 7))), .mk (some 6) none (.k (.mov (.tmp 31)))]) .ret
def T11n1 : XC := .seq (.ops [.mk (some 43) none (.k (.mov (.tmp 7))), .mk (some 6) none (.k (.mov (.tmp 43)))]) .ret
def T11n2 : XC := .seq (.ops [.mk (some 6) none (.k (.mov (.const (.bool false))))]) .ret
def T11n3 : XC := .seq (.ops [.mk (some 6) none (.k (.mov (.const (.bool false))))]) .ret
def T11n4 : XC := .ops [.mk (some 80) none (.k (.mov (.tmp 16))), .mk (some 81) none (.k (.arith .add .i64 (.tmp 80) (.const (.int .i64 1)))), .mk (some 16) none (.k (.mov (.tmp 81)))]
def T11n5 : XC := .seq (.blk 1 (.seq (.ops [.mk (some 82) none (.k (.mov (.tmp 14))), .mk (some 83) none (.k (.mov (.tmp 16))), .mk (some 84) none (.k (.idx 1 (.tmp 82) (.tmp 83))), .mk (some 85) none (.k (.load [.int .u64] false (.tmp 84))), .mk (some 86) none (.k (.mov (.tmp 8))), .mk (some 87) none (.k (.mov (.tmp 16))), .mk (some 88) none (.k (.idx 1 (.tmp 86) (.tmp 87))), .mk (some 89) none (.k (.load [.int .u64] false (.tmp 88))), .mk (some 90) none (.k (.cmp .neq .u64 (.tmp 85) (.tmp 89)))]) (.cond (.tmp 90) (.ref 3) .skip))) (.ref 4)
def T11n6 : XC := .seq (.seq (.ops [.mk (some 76) none (.k (.mov (.tmp 16))), .mk (some 77) none (.k (.mov (.tmp 14))), .mk (some 78) none (.k (.lenS (.tmp 77))), .mk (some 79) none (.k (.cmp .lss .i64 (.tmp 76) (.tmp 78)))]) (.cond (.tmp 79) .skip (.exit 0))) (.ref 5)
def T11n7 : XC := .seq (.ops [.mk (some 107) none (.k (.mov (.tmp 7))), .mk (some 6) none (.k (.mov (.tmp 107)))]) .ret
def T11n8 : XC := .seq (.ops [.mk (some 141) none (.k (.mov (.tmp 7))), .mk (some 6) none (.k (.mov (.tmp 141)))]) .ret
def T11n9 : XC := .ops [.mk (some 120) none (.k (.mov (.tmp 17))), .mk (some 121) none (.k (.arith .sub .i64 (.tmp 120) (.const (.int .i64 1)))), .mk (some 17) none (.k (.mov (.tmp 121)))]
def T11n10 : XC := .seq (.blk 3 (.seq (.ops [.mk (some 122) none (.k (.mov (.tmp 9))), .mk (some 123) none (.k (.mov (.tmp 17))), .mk (some 124) none (.k (.idx 9 (.tmp 122) (.tmp 123))), .mk (some 125) none (.k (.fld 0 (.tmp 124))), .mk (some 126) none (.k (.load [.int .i64] false (.tmp 125))), .mk (some 127) none (.k (.cmp .eql .i64 (.tmp 126) (.const (.int .i64 3)))), .mk (some 128) none (.k (.mov (.tmp 127))), .mk (some 129) (some (128, true)) (.k (.mov (.tmp 9))), .mk (some 130) (some (128, true)) (.k (.mov (.tmp 17))), .mk (some 131) (some (128, true)) (.k (.idx 9 (.tmp 129) (.tmp 130))), .mk (some 132) (some (128, true)) (.k (.fld 6 (.tmp 131))), .mk (some 133) (some (128, true)) (.k (.load [.int .i64] false (.tmp 132))), .mk (some 134) (some (128, true)) (.k (.mov (.tmp 9))), .mk (some 135) (some (128, true)) (.k (.mov (.tmp 2))), .mk (some 136) (some (128, true)) (.k (.idx 9 (.tmp 134) (.tmp 135))), .mk (some 137) (some (128, true)) (.k (.fld 6 (.tmp 136))), .mk (some 138) (some (128, true)) (.k (.load [.int .i64] false (.tmp 137))), .mk (some 139) (some (128, true)) (.k (.cmp .eql .i64 (.tmp 133) (.tmp 138))), .mk (some 140) none (.k (.pick (.tmp 128) (.tmp 139) (.const (.bool false))))]) (.cond (.tmp 140) (.ref 8) .skip))) (.ref 9)
def T11n11 : XC := .seq (.seq (.ops [.mk (some 110) none (.k (.mov (.tmp 17))), .mk (some 111) none (.k (.cmp .geq .i64 (.tmp 110) (.const (.int .i64 0)))), .mk (some 112) none (.k (.mov (.tmp 111))), .mk (some 113) (some (112, true)) (.k (.mov (.tmp 9))), .mk (some 114) (some (112, true)) (.k (.mov (.tmp 17))), .mk (some 115) (some (112, true)) (.k (.idx 9 (.tmp 113) (.tmp 114))), .mk (some 116) (some (112, true)) (.k (.fld 0 (.tmp 115))), .mk (some 117) (some (112, true)) (.k (.load [.int .i64] false (.tmp 116))), .mk (some 118) (some (112, true)) (.k (.cmp .neq .i64 (.tmp 117) (.const (.int .i64 1)))), .mk (some 119) none (.k (.pick (.tmp 112) (.tmp 118) (.const (.bool false))))]) (.cond (.tmp 119) .skip (.exit 2))) (.ref 10)
def T11n12 : XC := .seq (.ops [.mk (some 157) none (.k (.mov (.tmp 7))), .mk (some 158) none (.k (.mov (.tmp 157))), .mk (some 159) (some (158, true)) (.k (.mov (.tmp 12))), .mk (some 160) (some (158, true)) (.k (.not (.tmp 159))), .mk (some 161) none (.k (.pick (.tmp 158) (.tmp 160) (.const (.bool false)))), .mk (some 162) none (.k (.mov (.tmp 161))), .mk (some 163) (some (162, true)) (.k (.mov (.tmp 13))), .mk (some 164) (some (162, true)) (.k (.cmp .eql .i64 (.tmp 163) (.const (.int .i64 0)))), .mk (some 165) none (.k (.pick (.tmp 162) (.tmp 164) (.const (.bool false)))), .mk (some 6) none (.k (.mov (.tmp 165)))]) .ret
def T11n13 : XC := .seq (.ops [.mk (some 151) none (.k (.mov (.tmp 9))), .mk (some 152) none (.k (.mov (.tmp 1))), .mk (some 153) none (.call 40 [.tmp 151, .tmp 152]), .mk (some 150) none (.k (.mov (.tmp 153))), .mk (some 154) none (.k (.ext (.tmp 150) 0)), .mk (some 155) none (.k (.ext (.tmp 150) 1)), .mk (some 156) none (.k (.ext (.tmp 150) 2)), .mk (some 12) none (.k (.mov (.tmp 155))), .mk (some 13) none (.k (.mov (.tmp 156)))]) (.ref 12)
def T11n14 : XC := .seq (.ops [.mk (some 142) none (.k (.mov (.tmp 9))), .mk (some 143) none (.k (.mov (.tmp 2))), .mk (some 144) none (.k (.idx 9 (.tmp 142) (.tmp 143))), .mk (some 145) none (.k (.fld 7 (.tmp 144))), .mk (some 146) none (.k (.load [.int .u64] false (.tmp 145))), .mk (some 147) none (.k (.arith .add .u64 (.tmp 146) (.const (.int .u64 1)))), .mk (some 148) none (.k (.idx 9 (.tmp 142) (.tmp 143))), .mk (some 149) none (.k (.fld 7 (.tmp 148))), .mk none none (.k (.store 1 (.tmp 149) (.tmp 147)))]) (.ref 13)
def T11n15 : XC := .seq (.seq (.ops [.mk (some 108) none (.k (.mov (.tmp 2))), .mk (some 109) none (.k (.arith .sub .i64 (.tmp 108) (.const (.int .i64 1)))), .mk (some 17) none (.k (.mov (.tmp 109)))]) (.blk 2 (.loop (.ref 11)))) (.ref 14)
def T11n16 : XC := .seq (.seq (.ops [.mk (some 91) none (.k (.mov (.tmp 2))), .mk (some 92) none (.k (.cmp .lss .i64 (.tmp 91) (.const (.int .i64 0)))), .mk (some 93) none (.k (.mov (.tmp 92))), .mk (some 94) (some (93, false)) (.k (.mov (.tmp 2))), .mk (some 95) (some (93, false)) (.k (.mov (.tmp 9))), .mk (some 96) (some (93, false)) (.k (.lenS (.tmp 95))), .mk (some 97) (some (93, false)) (.k (.cmp .geq .i64 (.tmp 94) (.tmp 96))), .mk (some 98) none (.k (.pick (.tmp 93) (.const (.bool true)) (.tmp 97))), .mk (some 99) none (.k (.mov (.tmp 98))), .mk (some 100) (some (99, false)) (.k (.mov (.tmp 9))), .mk (some 101) (some (99, false)) (.k (.mov (.tmp 2))), .mk (some 102) (some (99, false)) (.k (.idx 9 (.tmp 100) (.tmp 101))), .mk (some 103) (some (99, false)) (.k (.fld 0 (.tmp 102))), .mk (some 104) (some (99, false)) (.k (.load [.int .i64] false (.tmp 103))), .mk (some 105) (some (99, false)) (.k (.cmp .neq .i64 (.tmp 104) (.const (.int .i64 2)))), .mk (some 106) none (.k (.pick (.tmp 99) (.const (.bool true)) (.tmp 105)))]) (.cond (.tmp 106) (.ref 7) .skip)) (.ref 15)
def T11n17 : XC := .seq (.seq (.ops [.mk (some 16) none (.k (.mov (.const (.int .i64 0))))]) (.blk 0 (.loop (.ref 6)))) (.ref 16)
def T11n18 : XC := .seq (.seq (.ops [.mk (some 59) none (.k (.mov (.tmp 12))), .mk (some 60) none (.k (.not (.tmp 59))), .mk (some 61) none (.k (.mov (.tmp 60))), .mk (some 62) (some (61, false)) (.k (.mov (.tmp 13))), .mk (some 63) (some (61, false)) (.k (.cmp .neq .i64 (.tmp 62) (.const (.int .i64 0)))), .mk (some 64) none (.k (.pick (.tmp 61) (.const (.bool true)) (.tmp 63))), .mk (some 65) none (.k (.mov (.tmp 64))), .mk (some 66) (some (65, false)) (.k (.mov (.tmp 15))), .mk (some 67) (some (65, false)) (.k (.cmp .neq .i64 (.tmp 66) (.const (.int .i64 0)))), .mk (some 68) none (.k (.pick (.tmp 65) (.const (.bool true)) (.tmp 67))), .mk (some 69) none (.k (.mov (.tmp 68))), .mk (some 70) (some (69, false)) (.k (.mov (.tmp 14))), .mk (some 71) (some (69, false)) (.k (.lenS (.tmp 70))), .mk (some 72) (some (69, false)) (.k (.mov (.tmp 8))), .mk (some 73) (some (69, false)) (.k (.lenS (.tmp 72))), .mk (some 74) (some (69, false)) (.k (.cmp .neq .i64 (.tmp 71) (.tmp 73))), .mk (some 75) none (.k (.pick (.tmp 69) (.const (.bool true)) (.tmp 74)))]) (.cond (.tmp 75) (.ref 2) .skip)) (.ref 17)
def T11n19 : XC := .seq (.ops [.mk (some 52) none (.k (.mov (.tmp 9))), .mk (some 53) none (.k (.mov (.tmp 1))), .mk (some 54) none (.k (.mov (.tmp 1))), .mk (some 55) none (.k (.lenS (.tmp 54))), .mk (some 56) none (.call 41 [.tmp 52, .tmp 53, .tmp 55]), .mk (some 51) none (.k (.mov (.tmp 56))), .mk (some 57) none (.k (.ext (.tmp 51) 0)), .mk (some 58) none (.k (.ext (.tmp 51) 1)), .mk (some 14) none (.k (.mov (.tmp 57))), .mk (some 15) none (.k (.mov (.tmp 58)))]) (.ref 18)
def T11n20 : XC := .seq (.ops [.mk (some 45) none (.k (.mov (.tmp 9))), .mk (some 46) none (.k (.mov (.tmp 1))), .mk (some 47) none (.call 40 [.tmp 45, .tmp 46]), .mk (some 44) none (.k (.mov (.tmp 47))), .mk (some 48) none (.k (.ext (.tmp 44) 0)), .mk (some 49) none (.k (.ext (.tmp 44) 1)), .mk (some 50) none (.k (.ext (.tmp 44) 2)), .mk (some 11) none (.k (.mov (.tmp 48))), .mk (some 12) none (.k (.mov (.tmp 49))), .mk (some 13) none (.k (.mov (.tmp 50)))]) (.ref 19)
def T11n21 : XC := .seq (.seq (.ops [.mk (some 41) none (.k (.mov (.tmp 10))), .mk (some 42) none (.k (.not (.tmp 41)))]) (.cond (.tmp 42) (.ref 1) .skip)) (.ref 20)
def T11n22 : XC := .seq (.ops [.mk (some 36) none (.k (.mov (.tmp 0))), .mk (some 37) none (.k (.mov (.tmp 8))), .mk (some 38) none (.call 46 [.tmp 36, .tmp 37]), .mk (some 35) none (.k (.mov (.tmp 38))), .mk (some 39) none (.k (.ext (.tmp 35) 0)), .mk (some 40) none (.k (.ext (.tmp 35) 1)), .mk (some 9) none (.k (.mov (.tmp 39))), .mk (some 10) none (.k (.mov (.tmp 40)))]) (.ref 21)
def T11n23 : XC := .seq (.ops [.mk (some 32) none (.k (.buildS 63 0 1 [.int .u64 0] [])), .mk (some 33) none (.k (.mov (.tmp 1))), .mk (some 34) none (.k (.app 63 1 8 (.tmp 32) (.tmp 33))), .mk (some 8) none (.k (.mov (.tmp 34)))]) (.ref 22)
def T11n24 : XC := .seq (.seq (.ops [.mk (some 19) none (.k (.mov (.tmp 0))), .mk (some 20) none (.k (.lenS (.tmp 19))), .mk (some 21) none (.k (.cmp .gtr .i64 (.tmp 20) (.const (.int .i64 12)))), .mk (some 22) none (.k (.mov (.tmp 21))), .mk (some 23) (some (22, false)) (.k (.mov (.tmp 1))), .mk (some 24) (some (22, false)) (.k (.lenS (.tmp 23))), .mk (some 25) (some (22, false)) (.k (.cmp .gtr .i64 (.tmp 24) (.const (.int .i64 60)))), .mk (some 26) none (.k (.pick (.tmp 22) (.const (.bool true)) (.tmp 25))), .mk (some 27) none (.k (.mov (.tmp 26))), .mk (some 28) (some (27, false)) (.k (.mov (.tmp 7))), .mk (some 29) (some (27, false)) (.k (.not (.tmp 28))), .mk (some 30) none (.k (.pick (.tmp 27) (.const (.bool true)) (.tmp 29)))]) (.cond (.tmp 30) (.ref 0) .skip)) (.ref 23)
def T11n25 : XC := .seq (.ops [.mk (some 18) none (.call 45 []), .mk (some 7) none (.k (.mov (.tmp 18)))]) (.ref 24)
def T11 : Nat → XC
 | 0 => T11n0
 | 1 => T11n1
 | 2 => T11n2
 | 3 => T11n3
 | 4 => T11n4
 | 5 => T11n5
 | 6 => T11n6
 | 7 => T11n7
 | 8 => T11n8
 | 9 => T11n9
 | 10 => T11n10
 | 11 => T11n11
 | 12 => T11n12
 | 13 => T11n13
 | 14 => T11n14
 | 15 => T11n15
 | 16 => T11n16
 | 17 => T11n17
 | 18 => T11n18
 | 19 => T11n19
 | 20 => T11n20
 | 21 => T11n21
 | 22 => T11n22
 | 23 => T11n23
 | 24 => T11n24
 | 25 => T11n25
 | _ => .skip
theorem t11n0 : T11 0 = T11n0 := rfl
theorem t11n1 : T11 1 = T11n1 := rfl
theorem t11n2 : T11 2 = T11n2 := rfl
theorem t11n3 : T11 3 = T11n3 := rfl
theorem t11n4 : T11 4 = T11n4 := rfl
theorem t11n5 : T11 5 = T11n5 := rfl
theorem t11n6 : T11 6 = T11n6 := rfl
theorem t11n7 : T11 7 = T11n7 := rfl
theorem t11n8 : T11 8 = T11n8 := rfl
theorem t11n9 : T11 9 = T11n9 := rfl
theorem t11n10 : T11 10 = T11n10 := rfl
theorem t11n11 : T11 11 = T11n11 := rfl
theorem t11n12 : T11 12 = T11n12 := rfl
theorem t11n13 : T11 13 = T11n13 := rfl
theorem t11n14 : T11 14 = T11n14 := rfl
theorem t11n15 : T11 15 = T11n15 := rfl
theorem t11n16 : T11 16 = T11n16 := rfl
theorem t11n17 : T11 17 = T11n17 := rfl
theorem t11n18 : T11 18 = T11n18 := rfl
theorem t11n19 : T11 19 = T11n19 := rfl
theorem t11n20 : T11 20 = T11n20 := rfl
theorem t11n21 : T11 21 = T11n21 := rfl
theorem t11n22 : T11 22 = T11n22 := rfl
theorem t11n23 : T11 23 = T11n23 := rfl
theorem t11n24 : T11 24 = T11n24 := rfl
theorem t11n25 : T11 25 = T11n25 := rfl
def X11 : XC := .seq (.ops [.mk (some 6) none (.k (.mov (.const (.bool false))))]) (.ref 25)
abbrev K11 : List Nat := [0, 1, 2, 6, 7, 8, 9, 10, 12, 13, 14, 15, 16, 17, 30, 42, 75, 79, 90, 106, 119, 140]
theorem n11 : Try.f11.ntmps = 166 := by kernel_rfl
theorem r11 : resT Try.f11.results.toList = some [6] := by kernel_rfl
theorem x11 : cmpF Try.prog Try.f11 = some (expand T11 27 X11) := by kernel_rfl
def T45n0 : XC := .seq (.ops [.mk (some 15) none (.k (.mov (.tmp 1))), .mk (some 16) none (.k (.cmp .eql .i64 (.tmp 15) (.const (.int .i64 0)))), .mk (some 17) none (.k (.mov (.tmp 16))), .mk (some 18) (some (17, true)) (.k (.mov (.tmp 2))), .mk (some 19) none (.k (.pick (.tmp 17) (.tmp 18) (.const (.bool false)))), .mk (some 20) none (.k (.mov (.tmp 19))), .mk (some 21) (some (20, true)) (.k (.mov (.tmp 3))), .mk (some 22) (some (20, true)) (.k (.cmp .eql .i64 (.tmp 21) (.const (.int .i64 0)))), .mk (some 23) none (.k (.pick (.tmp 20) (.tmp 22) (.const (.bool false)))), .mk (some 0) none (.k (.mov (.tmp 23)))]) .ret
def T45n1 : XC := .seq (.ops [.mk (some 5) none (.call 49 [.const (.int .i64 1), .const (.int .i64 0), .const (.int .i64 0), .const (.int .u64 0)]), .mk (some 6) none (.call 49 [.const (.int .i64 2), .const (.int .i64 0), .const (.int .i64 8), .const (.int .u64 0)]), .mk (some 7) none (.call 49 [.const (.int .i64 3), .const (.int .i64 0), .const (.int .i64 8), .const (.int .u64 5)]), .mk (some 8) none (.call 49 [.const (.int .i64 5), .const (.int .i64 0), .const (.int .i64 0), .const (.int .u64 0)]), .mk (some 9) none (.call 49 [.const (.int .i64 7), .const (.int .i64 1), .const (.int .i64 8), .const (.int .u64 5)]), .mk (some 10) none (.k (.buildS 65 5 9 [.int .i64 0, .int .i64 0, .int .i64 0, .int .i64 0, .int .i64 0, .int .i64 0, .int .i64 0, .int .u64 0, .int .i64 0] [(0, .tmp 5), (1, .tmp 6), (2, .tmp 7), (3, .tmp 8), (4, .tmp 9)])), .mk (some 11) none (.call 40 [.tmp 10, .const (.slice none 0 0)]), .mk (some 4) none (.k (.mov (.tmp 11))), .mk (some 12) none (.k (.ext (.tmp 4) 0)), .mk (some 13) none (.k (.ext (.tmp 4) 1)), .mk (some 14) none (.k (.ext (.tmp 4) 2)), .mk (some 1) none (.k (.mov (.tmp 12))), .mk (some 2) none (.k (.mov (.tmp 13))), .mk (some 3) none (.k (.mov (.tmp 14)))]) (.ref 0)
def T45 : Nat → XC
 | 0 => T45n0
 | 1 => T45n1
 | _ => .skip
theorem t45n0 : T45 0 = T45n0 := rfl
theorem t45n1 : T45 1 = T45n1 := rfl
def X45 : XC := .seq (.ops [.mk (some 0) none (.k (.mov (.const (.bool false))))]) (.ref 1)
abbrev K45 : List Nat := [0, 1, 2, 3]
theorem n45 : Try.f45.ntmps = 24 := by kernel_rfl
theorem r45 : resT Try.f45.results.toList = some [0] := by kernel_rfl
theorem x45 : cmpF Try.prog Try.f45 = some (expand T45 3 X45) := by kernel_rfl
def T46n0 : XC := .seq (.ops [.mk (some 4) none (.k (.mov (.const (.slice none 0 0)))), .mk (some 5) none (.k (.mov (.const (.bool false))))]) .ret
def T46n1 : XC := .seq (.ops [.mk (some 4) none (.k (.mov (.const (.slice none 0 0)))), .mk (some 5) none (.k (.mov (.const (.bool false))))]) .ret
def T46n2 : XC := .ops [.mk (some 118) none (.k (.mov (.tmp 11))), .mk (some 119) none (.k (.fld 6 (.tmp 13))), .mk (some 120) none (.k (.load [.int .i64] false (.tmp 119))), .mk (some 121) none (.k (.fld 7 (.tmp 13))), .mk (some 122) none (.k (.load [.int .u64] false (.tmp 121))), .mk (some 123) none (.k (.idx 1 (.tmp 118) (.tmp 120))), .mk none none (.k (.store 1 (.tmp 123) (.tmp 122)))]
def T46n3 : XC := .seq (.ops [.mk (some 111) none (.k (.fld 2 (.tmp 9))), .mk (some 112) none (.k (.load [.slc] false (.tmp 111))), .mk (some 113) none (.k (.mov (.tmp 12))), .mk (some 114) none (.k (.idx 3 (.tmp 112) (.tmp 113))), .mk (some 115) none (.k (.fld 2 (.tmp 114))), .mk (some 116) none (.k (.load [.int .u64] false (.tmp 115))), .mk (some 117) none (.k (.fld 7 (.tmp 13))), .mk none none (.k (.store 1 (.tmp 117) (.tmp 116)))]) (.ref 2)
def T46n4 : XC := .seq (.ops [.mk (some 110) none (.k (.fld 0 (.tmp 13))), .mk none none (.k (.store 1 (.tmp 110) (.const (.int .i64 3))))]) (.ref 3)
def T46n5 : XC := .ops [.mk (some 124) none (.k (.mov (.tmp 6))), .mk (some 125) none (.k (.load [.int .i64, .int .i64, .int .i64, .int .i64, .int .i64, .int .i64, .int .i64, .int .u64, .int .i64] true (.tmp 13))), .mk (some 126) none (.k (.buildS 65 1 9 [.int .i64 0, .int .i64 0, .int .i64 0, .int .i64 0, .int .i64 0, .int .i64 0, .int .i64 0, .int .u64 0, .int .i64 0] [(0, .tmp 125)])), .mk (some 127) none (.k (.app 65 9 72 (.tmp 124) (.tmp 126))), .mk (some 6) none (.k (.mov (.tmp 127)))]
def T46n6 : XC := .seq (.seq (.ops [.mk (some 104) none (.k (.fld 2 (.tmp 9))), .mk (some 105) none (.k (.load [.slc] false (.tmp 104))), .mk (some 106) none (.k (.mov (.tmp 12))), .mk (some 107) none (.k (.idx 3 (.tmp 105) (.tmp 106))), .mk (some 108) none (.k (.fld 1 (.tmp 107))), .mk (some 109) none (.k (.load [.bool] false (.tmp 108)))]) (.cond (.tmp 109) (.ref 4) .skip)) (.ref 5)
def T46n7 : XC := .seq (.ops [.mk (some 98) none (.k (.mov (.tmp 11))), .mk (some 99) none (.k (.fld 6 (.tmp 13))), .mk (some 100) none (.k (.load [.int .i64] false (.tmp 99))), .mk (some 101) none (.k (.idx 1 (.tmp 98) (.tmp 100))), .mk (some 102) none (.k (.load [.int .u64] false (.tmp 101))), .mk (some 103) none (.k (.fld 7 (.tmp 13))), .mk none none (.k (.store 1 (.tmp 103) (.tmp 102)))]) (.ref 6)
def T46n8 : XC := .seq (.ops [.mk (some 97) none (.k (.fld 0 (.tmp 13))), .mk none none (.k (.store 1 (.tmp 97) (.const (.int .i64 2))))]) (.ref 7)
def T46n9 : XC := .seq (.seq (.ops [.mk (some 87) none (.k (.fld 6 (.tmp 13))), .mk (some 88) none (.k (.load [.int .i64] false (.tmp 87))), .mk (some 89) none (.k (.cmp .lss .i64 (.tmp 88) (.const (.int .i64 0)))), .mk (some 90) none (.k (.mov (.tmp 89))), .mk (some 91) (some (90, false)) (.k (.fld 6 (.tmp 13))), .mk (some 92) (some (90, false)) (.k (.load [.int .i64] false (.tmp 91))), .mk (some 93) (some (90, false)) (.k (.mov (.tmp 1))), .mk (some 94) (some (90, false)) (.k (.lenS (.tmp 93))), .mk (some 95) (some (90, false)) (.k (.cmp .geq .i64 (.tmp 92) (.tmp 94))), .mk (some 96) none (.k (.pick (.tmp 90) (.const (.bool true)) (.tmp 95)))]) (.cond (.tmp 96) (.ref 1) .skip)) (.ref 8)
def T46n10 : XC := .seq (.ops [.mk (some 80) none (.k (.fld 2 (.tmp 9))), .mk (some 81) none (.k (.load [.slc] false (.tmp 80))), .mk (some 82) none (.k (.mov (.tmp 12))), .mk (some 83) none (.k (.idx 3 (.tmp 81) (.tmp 82))), .mk (some 84) none (.k (.fld 0 (.tmp 83))), .mk (some 85) none (.k (.load [.int .i64] false (.tmp 84))), .mk (some 86) none (.k (.fld 6 (.tmp 13))), .mk none none (.k (.store 1 (.tmp 86) (.tmp 85)))]) (.ref 9)
def T46n11 : XC := .ops [.mk (some 77) none (.k (.mov (.tmp 12))), .mk (some 78) none (.k (.arith .add .i64 (.tmp 77) (.const (.int .i64 1)))), .mk (some 12) none (.k (.mov (.tmp 78)))]
def T46n12 : XC := .seq (.blk 3 (.seq (.ops [.mk (some 79) none (.k (.load [.int .i64, .int .i64, .int .i64, .int .i64, .int .i64, .int .i64, .int .i64, .int .u64, .int .i64] true (.tmp 10))), .mk (some 13) none (.k (.alloc 65 [.int .i64 0, .int .i64 0, .int .i64 0, .int .i64 0, .int .i64 0, .int .i64 0, .int .i64 0, .int .u64 0, .int .i64 0])), .mk none none (.k (.store 9 (.tmp 13) (.tmp 79)))]) (.ref 10))) (.ref 11)
def T46n13 : XC := .seq (.seq (.ops [.mk (some 72) none (.k (.mov (.tmp 12))), .mk (some 73) none (.k (.fld 2 (.tmp 9))), .mk (some 74) none (.k (.load [.slc] false (.tmp 73))), .mk (some 75) none (.k (.lenS (.tmp 74))), .mk (some 76) none (.k (.cmp .lss .i64 (.tmp 72) (.tmp 75)))]) (.cond (.tmp 76) .skip (.exit 2))) (.ref 12)
def T46n14 : XC := .seq (.ops [.mk (some 137) none (.k (.fld 0 (.tmp 14))), .mk none none (.k (.store 1 (.tmp 137) (.const (.int .i64 6))))]) (.ops [.mk (some 138) none (.k (.fld 8 (.tmp 14))), .mk none none (.k (.store 1 (.tmp 138) (.const (.int .i64 5))))])
def T46n15 : XC := .ops [.mk (some 139) none (.k (.mov (.tmp 1))), .mk (some 140) none (.k (.mov (.tmp 11))), .mk (some 141) none (.k (.cpy 1 false (.tmp 139) (.tmp 140)))]
def T46n16 : XC := .ops [.mk (some 142) none (.k (.mov (.tmp 6))), .mk (some 143) none (.k (.load [.int .i64, .int .i64, .int .i64, .int .i64, .int .i64, .int .i64, .int .i64, .int .u64, .int .i64] true (.tmp 14))), .mk (some 144) none (.k (.buildS 65 1 9 [.int .i64 0, .int .i64 0, .int .i64 0, .int .i64 0, .int .i64 0, .int .i64 0, .int .i64 0, .int .u64 0, .int .i64 0] [(0, .tmp 143)])), .mk (some 145) none (.k (.app 65 9 72 (.tmp 142) (.tmp 144))), .mk (some 6) none (.k (.mov (.tmp 145)))]
def T46n17 : XC := .seq (.seq (.ops [.mk (some 135) none (.k (.fld 3 (.tmp 9))), .mk (some 136) none (.k (.load [.bool] false (.tmp 135)))]) (.cond (.tmp 136) (.ref 14) (.ref 15))) (.ref 16)
def T46n18 : XC := .seq (.ops [.mk (some 134) none (.k (.fld 0 (.tmp 14))), .mk none none (.k (.store 1 (.tmp 134) (.const (.int .i64 5))))]) (.ref 17)
def T46n19 : XC := .seq (.ops [.mk (some 130) none (.k (.mov (.tmp 6))), .mk (some 131) none (.k (.load [.int .i64, .int .i64, .int .i64, .int .i64, .int .i64, .int .i64, .int .i64, .int .u64, .int .i64] true (.tmp 14))), .mk (some 132) none (.k (.buildS 65 1 9 [.int .i64 0, .int .i64 0, .int .i64 0, .int .i64 0, .int .i64 0, .int .i64 0, .int .i64 0, .int .u64 0, .int .i64 0] [(0, .tmp 131)])), .mk (some 133) none (.k (.app 65 9 72 (.tmp 130) (.tmp 132))), .mk (some 6) none (.k (.mov (.tmp 133)))]) (.ref 18)
def T46n20 : XC := .seq (.ops [.mk (some 129) none (.k (.fld 0 (.tmp 14))), .mk none none (.k (.store 1 (.tmp 129) (.const (.int .i64 4))))]) (.ref 19)
def T46n21 : XC := .seq (.ops [.mk (some 128) none (.k (.load [.int .i64, .int .i64, .int .i64, .int .i64, .int .i64, .int .i64, .int .i64, .int .u64, .int .i64] true (.tmp 10))), .mk (some 14) none (.k (.alloc 65 [.int .i64 0, .int .i64 0, .int .i64 0, .int .i64 0, .int .i64 0, .int .i64 0, .int .i64 0, .int .u64 0, .int .i64 0])), .mk none none (.k (.store 9 (.tmp 14) (.tmp 128)))]) (.ref 20)
def T46n22 : XC := .seq (.seq (.ops [.mk (some 12) none (.k (.mov (.const (.int .i64 0))))]) (.blk 2 (.loop (.ref 13)))) (.ref 21)
def T46n23 : XC := .seq (.ops [.mk (some 69) none (.k (.buildS 63 0 1 [.int .u64 0] [])), .mk (some 70) none (.k (.mov (.tmp 1))), .mk (some 71) none (.k (.app 63 1 8 (.tmp 69) (.tmp 70))), .mk (some 11) none (.k (.mov (.tmp 71)))]) (.ref 22)
def T46n24 : XC := .seq (.ops [.mk (some 65) none (.k (.mov (.tmp 6))), .mk (some 66) none (.k (.load [.int .i64, .int .i64, .int .i64, .int .i64, .int .i64, .int .i64, .int .i64, .int .u64, .int .i64] true (.tmp 10))), .mk (some 67) none (.k (.buildS 65 1 9 [.int .i64 0, .int .i64 0, .int .i64 0, .int .i64 0, .int .i64 0, .int .i64 0, .int .i64 0, .int .u64 0, .int .i64 0] [(0, .tmp 66)])), .mk (some 68) none (.k (.app 65 9 72 (.tmp 65) (.tmp 67))), .mk (some 6) none (.k (.mov (.tmp 68)))]) (.ref 23)
def T46n25 : XC := .seq (.ops [.mk (some 59) none (.k (.fld 0 (.tmp 9))), .mk (some 60) none (.k (.load [.int .i64] false (.tmp 59))), .mk (some 61) none (.k (.idxA 4 1 (.tmp 7) (.tmp 60))), .mk (some 62) none (.k (.load [.int .i64] false (.tmp 61))), .mk (some 63) none (.k (.arith .add .i64 (.tmp 62) (.const (.int .i64 1)))), .mk (some 64) none (.k (.idxA 4 1 (.tmp 7) (.tmp 60))), .mk none none (.k (.store 1 (.tmp 64) (.tmp 63)))]) (.ref 24)
def T46n26 : XC := .seq (.ops [.mk (some 50) none (.k (.fld 0 (.tmp 9))), .mk (some 51) none (.k (.load [.int .i64] false (.tmp 50))), .mk (some 52) none (.k (.fld 0 (.tmp 9))), .mk (some 53) none (.k (.load [.int .i64] false (.tmp 52))), .mk (some 54) none (.k (.idxA 4 1 (.tmp 7) (.tmp 53))), .mk (some 55) none (.k (.load [.int .i64] false (.tmp 54))), .mk (some 56) none (.k (.fld 1 (.tmp 9))), .mk (some 57) none (.k (.load [.int .i64] false (.tmp 56))), .mk (some 58) none (.k (.build [.int .i64 0, .int .i64 0, .int .i64 0, .int .i64 0, .int .i64 0, .int .i64 0, .int .i64 0, .int .u64 0, .int .i64 0] [(0, 1, .const (.int .i64 1)), (2, 1, .tmp 51), (3, 1, .tmp 55), (5, 1, .tmp 57)])), .mk (some 10) none (.k (.alloc 65 [.int .i64 0, .int .i64 0, .int .i64 0, .int .i64 0, .int .i64 0, .int .i64 0, .int .i64 0, .int .u64 0, .int .i64 0])), .mk none none (.k (.store 9 (.tmp 10) (.tmp 58)))]) (.ref 25)
def T46n27 : XC := .seq (.seq (.ops [.mk (some 26) none (.k (.fld 0 (.tmp 9))), .mk (some 27) none (.k (.load [.int .i64] false (.tmp 26))), .mk (some 28) none (.k (.cmp .lss .i64 (.tmp 27) (.const (.int .i64 0)))), .mk (some 29) none (.k (.mov (.tmp 28))), .mk (some 30) (some (29, false)) (.k (.fld 0 (.tmp 9))), .mk (some 31) (some (29, false)) (.k (.load [.int .i64] false (.tmp 30))), .mk (some 32) (some (29, false)) (.k (.cmp .gtr .i64 (.tmp 31) (.const (.int .i64 3)))), .mk (some 33) none (.k (.pick (.tmp 29) (.const (.bool true)) (.tmp 32))), .mk (some 34) none (.k (.mov (.tmp 33))), .mk (some 35) (some (34, false)) (.k (.fld 1 (.tmp 9))), .mk (some 36) (some (34, false)) (.k (.load [.int .i64] false (.tmp 35))), .mk (some 37) (some (34, false)) (.k (.cmp .lss .i64 (.tmp 36) (.const (.int .i64 1)))), .mk (some 38) none (.k (.pick (.tmp 34) (.const (.bool true)) (.tmp 37))), .mk (some 39) none (.k (.mov (.tmp 38))), .mk (some 40) (some (39, false)) (.k (.fld 1 (.tmp 9))), .mk (some 41) (some (39, false)) (.k (.load [.int .i64] false (.tmp 40))), .mk (some 42) (some (39, false)) (.k (.cmp .gtr .i64 (.tmp 41) (.const (.int .i64 4)))), .mk (some 43) none (.k (.pick (.tmp 39) (.const (.bool true)) (.tmp 42))), .mk (some 44) none (.k (.mov (.tmp 43))), .mk (some 45) (some (44, false)) (.k (.fld 2 (.tmp 9))), .mk (some 46) (some (44, false)) (.k (.load [.slc] false (.tmp 45))), .mk (some 47) (some (44, false)) (.k (.lenS (.tmp 46))), .mk (some 48) (some (44, false)) (.k (.cmp .gtr .i64 (.tmp 47) (.const (.int .i64 40)))), .mk (some 49) none (.k (.pick (.tmp 44) (.const (.bool true)) (.tmp 48)))]) (.cond (.tmp 49) (.ref 0) .skip)) (.ref 26)
def T46n28 : XC := .ops [.mk (some 20) none (.k (.mov (.tmp 8))), .mk (some 21) none (.k (.arith .add .i64 (.tmp 20) (.const (.int .i64 1)))), .mk (some 8) none (.k (.mov (.tmp 21)))]
def T46n29 : XC := .seq (.blk 1 (.seq (.ops [.mk (some 22) none (.k (.mov (.tmp 0))), .mk (some 23) none (.k (.mov (.tmp 8))), .mk (some 24) none (.k (.idx 4 (.tmp 22) (.tmp 23))), .mk (some 25) none (.k (.load [.int .i64, .int .i64, .slc, .bool] true (.tmp 24))), .mk (some 9) none (.k (.alloc 142 [.int .i64 0, .int .i64 0, .slice none 0 0, .bool false])), .mk none none (.k (.store 4 (.tmp 9) (.tmp 25)))]) (.ref 27))) (.ref 28)
def T46n30 : XC := .seq (.seq (.ops [.mk (some 16) none (.k (.mov (.tmp 8))), .mk (some 17) none (.k (.mov (.tmp 0))), .mk (some 18) none (.k (.lenS (.tmp 17))), .mk (some 19) none (.k (.cmp .lss .i64 (.tmp 16) (.tmp 18)))]) (.cond (.tmp 19) .skip (.exit 0))) (.ref 29)
def T46n31 : XC := .seq (.ops [.mk (some 146) none (.k (.mov (.tmp 6))), .mk (some 4) none (.k (.mov (.tmp 146))), .mk (some 5) none (.k (.mov (.const (.bool true))))]) .ret
def T46n32 : XC := .seq (.seq (.ops [.mk (some 8) none (.k (.mov (.const (.int .i64 0))))]) (.blk 0 (.loop (.ref 30)))) (.ref 31)
def T46n33 : XC := .seq (.ops [.mk (some 15) none (.k (.build [.int .i64 0, .int .i64 0, .int .i64 0, .int .i64 0] [])), .mk (some 7) none (.k (.alloc 56 [.int .i64 0, .int .i64 0, .int .i64 0, .int .i64 0])), .mk none none (.k (.store 4 (.tmp 7) (.tmp 15)))]) (.ref 32)
def T46n34 : XC := .seq (.ops [.mk (some 6) none (.k (.mov (.const (.slice none 0 0))))]) (.ref 33)
def T46 : Nat → XC
 | 0 => T46n0
 | 1 => T46n1
 | 2 => T46n2
 | 3 => T46n3
 | 4 => T46n4
 | 5 => T46n5
 | 6 => T46n6
 | 7 => T46n7
 | 8 => T46n8
 | 9 => T46n9
 | 10 => T46n10
 | 11 => T46n11
 | 12 => T46n12
 | 13 => T46n13
 | 14 => T46n14
 | 15 => T46n15
 | 16 => T46n16
 | 17 => T46n17
 | 18 => T46n18
 | 19 => T46n19
 | 20 => T46n20
 | 21 => T46n21
 | 22 => T46n22
 | 23 => T46n23
 | 24 => T46n24
 | 25 => T46n25
 | 26 => T46n26
 | 27 => T46n27
 | 28 => T46n28
 | 29 => T46n29
 | 30 => T46n30
 | 31 => T46n31
 | 32 => T46n32
 | 33 => T46n33
 | 34 => T46n34
 | _ => .skip
theorem t46n0 : T46 0 = T46n0 := rfl
theorem t46n1 : T46 1 = T46n1 := rfl
theorem t46n2 : T46 2 = T46n2 := rfl
theorem t46n3 : T46 3 = T46n3 := rfl
theorem t46n4 : T46 4 = T46n4 := rfl
theorem t46n5 : T46 5 = T46n5 := rfl
theorem t46n6 : T46 6 = T46n6 := rfl
theorem t46n7 : T46 7 = T46n7 := rfl
theorem t46n8 : T46 8 = T46n8 := rfl
theorem t46n9 : T46 9 = T46n9 := rfl
theorem t46n10 : T46 10 = T46n10 := rfl
theorem t46n11 : T46 11 = T46n11 := rfl
theorem t46n12 : T46 12 = T46n12 := rfl
theorem t46n13 : T46 13 = T46n13 := rfl
theorem t46n14 : T46 14 = T46n14 := rfl
theorem t46n15 : T46 15 = T46n15 := rfl
theorem t46n16 : T46 16 = T46n16 := rfl
theorem t46n17 : T46 17 = T46n17 := rfl
theorem t46n18 : T46 18 = T46n18 := rfl
theorem t46n19 : T46 19 = T46n19 := rfl
theorem t46n20 : T46 20 = T46n20 := rfl
theorem t46n21 : T46 21 = T46n21 := rfl
theorem t46n22 : T46 22 = T46n22 := rfl
theorem t46n23 : T46 23 = T46n23 := rfl
theorem t46n24 : T46 24 = T46n24 := rfl
theorem t46n25 : T46 25 = T46n25 := rfl
theorem t46n26 : T46 26 = T46n26 := rfl
theorem t46n27 : T46 27 = T46n27 := rfl
theorem t46n28 : T46 28 = T46n28 := rfl
theorem t46n29 : T46 29 = T46n29 := rfl
theorem t46n30 : T46 30 = T46n30 := rfl
theorem t46n31 : T46 31 = T46n31 := rfl
theorem t46n32 : T46 32 = T46n32 := rfl
theorem t46n33 : T46 33 = T46n33 := rfl
theorem t46n34 : T46 34 = T46n34 := rfl
def X46 : XC := .seq (.ops [.mk (some 4) none (.k (.mov (.const (.slice none 0 0)))), .mk (some 5) none (.k (.mov (.const (.bool false))))]) (.ref 34)
abbrev K46 : List Nat := [0, 1, 4, 5, 6, 7, 8, 9, 10, 11, 12, 13, 14, 19, 49, 76, 96, 109, 136]
theorem n46 : Try.f46.ntmps = 147 := by kernel_rfl
theorem r46 : resT Try.f46.results.toList = some [4, 5] := by kernel_rfl
theorem x46 : cmpF Try.prog Try.f46 = some (expand T46 36 X46) := by kernel_rfl
def T49n0 : XC := .seq (.ops [.mk (some 9) none (.k (.mov (.tmp 0))), .mk (some 10) none (.k (.mov (.tmp 1))), .mk (some 11) none (.k (.mov (.tmp 2))), .mk (some 12) none (.k (.mov (.tmp 3))), .mk (some 13) none (.k (.mov (.tmp 1))), .mk (some 14) none (.k (.arith .mul .i64 (.const (.int .i64 2)) (.tmp 13))), .mk (some 15) none (.k (.arith .add .i64 (.const (.int .i64 1)) (.tmp 14))), .mk (some 16) none (.k (.build [.int .i64 0, .int .i64 0, .int .i64 0, .int .i64 0, .int .i64 0, .int .i64 0, .int .i64 0, .int .u64 0, .int .i64 0] [(0, 1, .tmp 9), (2, 1, .tmp 10), (6, 1, .tmp 11), (7, 1, .tmp 12), (5, 1, .tmp 15)])), .mk none none (.k (.store 9 (.tmp 8) (.tmp 16)))]) .ret
def T49 : Nat → XC
 | 0 => T49n0
 | _ => .skip
theorem t49n0 : T49 0 = T49n0 := rfl
def X49 : XC := .seq (.ops [.mk (some 8) none (.k (.alloc 65 [.int .i64 0, .int .i64 0, .int .i64 0, .int .i64 0, .int .i64 0, .int .i64 0, .int .i64 0, .int .u64 0, .int .i64 0]))]) (.ref 0)
abbrev K49 : List Nat := [0, 1, 2, 3, 8]
theorem n49 : Try.f49.ntmps = 17 := by kernel_rfl
theorem r49 : rvOf Try.prog Try.f49.results.toList = some [RV.cell 8 9 true] := by kernel_rfl
theorem x49 : cmpF Try.prog Try.f49 = some (expand T49 2 X49) := by kernel_rfl
end Go.Proofs.Ytnedgfkgmdoahaa
