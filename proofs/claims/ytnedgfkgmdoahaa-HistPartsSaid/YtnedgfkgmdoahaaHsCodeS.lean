/- Printed by program: the small code of functions, and that it is theirs. -/
import Derived.Test.YtnedgfkgmdoahaaSxStill
import Derived.Test.YtnedgfkgmdoahaaProg
import Derived.KernelRfl
set_option linter.unusedSimpArgs false
set_option linter.unusedVariables false
set_option linter.unnecessarySimpa false
namespace Go.Proofs.Ytnedgfkgmdoahaa
open Go Go.Sx
set_option maxRecDepth 100000
def T12n0 : XC := .seq (.ops [.mk (some 43) none (.k (.mov (.tmp 7))), .mk (some 6) none (.k (.mov (.tmp 43)))]) .ret
def T12n1 : XC := .seq (.ops [.mk (some 57) none (.k (.mov (.tmp 7))), .mk (some 6) none (.k (.mov (.tmp 57)))]) .ret
def T12n2 : XC := .seq (.ops [.mk (some 70) none (.k (.mov (.tmp 7))), .mk (some 6) none (.k (.mov (.tmp 70)))]) .ret
def T12n3 : XC := .ops [.mk (some 62) none (.k (.mov (.tmp 11))), .mk (some 63) none (.k (.arith .add .i64 (.tmp 62) (.const (.int .i64 1)))), .mk (some 11) none (.k (.mov (.tmp 63)))]
def T12n4 : XC := .seq (.blk 1 (.seq (.ops [.mk (some 64) none (.k (.mov (.tmp 0))), .mk (some 65) none (.k (.mov (.tmp 11))), .mk (some 66) none (.k (.idx 9 (.tmp 64) (.tmp 65))), .mk (some 67) none (.k (.fld 6 (.tmp 66))), .mk (some 68) none (.k (.load [.int .i64] false (.tmp 67))), .mk (some 69) none (.k (.cmp .gtr .i64 (.tmp 68) (.const (.int .i64 511))))]) (.cond (.tmp 69) (.ref 2) .skip))) (.ref 3)
def T12n5 : XC := .seq (.seq (.ops [.mk (some 58) none (.k (.mov (.tmp 11))), .mk (some 59) none (.k (.mov (.tmp 0))), .mk (some 60) none (.k (.lenS (.tmp 59))), .mk (some 61) none (.k (.cmp .lss .i64 (.tmp 58) (.tmp 60)))]) (.cond (.tmp 61) .skip (.exit 0))) (.ref 4)
def T12n6 : XC := .ops [.mk (some 103) none (.k (.mov (.tmp 21))), .mk (some 104) none (.k (.arith .add .i64 (.tmp 103) (.const (.int .i64 1)))), .mk (some 21) none (.k (.mov (.tmp 104)))]
def T12n7 : XC := .seq (.blk 3 (.ops [.mk (some 105) none (.k (.mov (.tmp 19))), .mk (some 106) none (.k (.mov (.tmp 2))), .mk (some 107) none (.k (.mov (.tmp 21))), .mk (some 108) none (.k (.idx 1 (.tmp 106) (.tmp 107))), .mk (some 109) none (.k (.load [.int .u64] false (.tmp 108))), .mk (some 110) none (.k (.buildS 63 1 1 [.int .u64 0] [(0, .tmp 109)])), .mk (some 111) none (.k (.app 63 1 8 (.tmp 105) (.tmp 110))), .mk (some 19) none (.k (.mov (.tmp 111)))])) (.ref 6)
def T12n8 : XC := .seq (.seq (.ops [.mk (some 99) none (.k (.mov (.tmp 21))), .mk (some 100) none (.k (.mov (.tmp 2))), .mk (some 101) none (.k (.lenS (.tmp 100))), .mk (some 102) none (.k (.cmp .lss .i64 (.tmp 99) (.tmp 101)))]) (.cond (.tmp 102) .skip (.exit 2))) (.ref 7)
def T12n9 : XC := .seq (.ops [.mk (some 6) none (.k (.mov (.const (.bool false))))]) .ret
def T12n10 : XC := .seq (.ops [.mk (some 143) none (.k (.mov (.tmp 7))), .mk (some 144) none (.k (.mov (.tmp 143))), .mk (some 145) (some (144, true)) (.k (.mov (.tmp 13))), .mk (some 146) (some (144, true)) (.k (.mov (.tmp 16))), .mk (some 147) (some (144, true)) (.k (.cmp .eql .i64 (.tmp 145) (.tmp 146))), .mk (some 148) none (.k (.pick (.tmp 144) (.tmp 147) (.const (.bool false)))), .mk (some 6) none (.k (.mov (.tmp 148)))]) .ret
def T12n11 : XC := .seq (.ops [.mk (some 149) none (.k (.mov (.tmp 7))), .mk (some 150) none (.k (.mov (.tmp 149))), .mk (some 151) (some (150, true)) (.k (.mov (.tmp 23))), .mk (some 152) (some (150, true)) (.k (.mov (.tmp 151))), .mk (some 153) (some (152, false)) (.k (.mov (.tmp 13))), .mk (some 154) (some (152, false)) (.k (.mov (.tmp 0))), .mk (some 155) (some (152, false)) (.k (.lenS (.tmp 154))), .mk (some 156) (some (152, false)) (.k (.mov (.tmp 22))), .mk (some 157) (some (152, false)) (.k (.arith .add .i64 (.tmp 155) (.tmp 156))), .mk (some 158) (some (152, false)) (.k (.cmp .eql .i64 (.tmp 153) (.tmp 157))), .mk (some 159) (some (150, true)) (.k (.pick (.tmp 152) (.const (.bool true)) (.tmp 158))), .mk (some 160) none (.k (.pick (.tmp 150) (.tmp 159) (.const (.bool false)))), .mk (some 6) none (.k (.mov (.tmp 160)))]) .ret
def T12n12 : XC := .seq (.seq (.ops [.mk (some 141) none (.k (.mov (.tmp 17))), .mk (some 142) none (.k (.not (.tmp 141)))]) (.cond (.tmp 142) (.ref 10) .skip)) (.ref 11)
def T12n13 : XC := .seq (.seq (.ops [.mk (some 119) none (.k (.mov (.tmp 15))), .mk (some 120) none (.k (.cmp .neq .i64 (.tmp 119) (.const (.int .i64 0)))), .mk (some 121) none (.k (.mov (.tmp 120))), .mk (some 122) (some (121, false)) (.k (.mov (.tmp 18))), .mk (some 123) (some (121, false)) (.k (.cmp .neq .i64 (.tmp 122) (.const (.int .i64 0)))), .mk (some 124) none (.k (.pick (.tmp 121) (.const (.bool true)) (.tmp 123))), .mk (some 125) none (.k (.mov (.tmp 124))), .mk (some 126) (some (125, false)) (.k (.mov (.tmp 20))), .mk (some 127) (some (125, false)) (.k (.cmp .neq .i64 (.tmp 126) (.const (.int .i64 0)))), .mk (some 128) none (.k (.pick (.tmp 125) (.const (.bool true)) (.tmp 127))), .mk (some 129) none (.k (.mov (.tmp 128))), .mk (some 130) (some (129, false)) (.k (.mov (.tmp 24))), .mk (some 131) (some (129, false)) (.k (.cmp .neq .i64 (.tmp 130) (.const (.int .i64 0)))), .mk (some 132) none (.k (.pick (.tmp 129) (.const (.bool true)) (.tmp 131))), .mk (some 133) none (.k (.mov (.tmp 132))), .mk (some 134) (some (133, false)) (.k (.mov (.tmp 14))), .mk (some 135) (some (133, false)) (.k (.mov (.tmp 17))), .mk (some 136) (some (133, false)) (.k (.mov (.tmp 135))), .mk (some 137) (some (136, true)) (.k (.mov (.tmp 23))), .mk (some 138) (some (133, false)) (.k (.pick (.tmp 136) (.tmp 137) (.const (.bool false)))), .mk (some 139) (some (133, false)) (.k (.eqb true (.tmp 134) (.tmp 138))), .mk (some 140) none (.k (.pick (.tmp 133) (.const (.bool true)) (.tmp 139)))]) (.cond (.tmp 140) (.ref 9) .skip)) (.ref 12)
def T12n14 : XC := .seq (.ops [.mk (some 113) none (.k (.mov (.tmp 1))), .mk (some 114) none (.k (.mov (.tmp 19))), .mk (some 115) none (.call 40 [.tmp 113, .tmp 114]), .mk (some 112) none (.k (.mov (.tmp 115))), .mk (some 116) none (.k (.ext (.tmp 112) 0)), .mk (some 117) none (.k (.ext (.tmp 112) 1)), .mk (some 118) none (.k (.ext (.tmp 112) 2)), .mk (some 22) none (.k (.mov (.tmp 116))), .mk (some 23) none (.k (.mov (.tmp 117))), .mk (some 24) none (.k (.mov (.tmp 118)))]) (.ref 13)
def T12n15 : XC := .seq (.seq (.ops [.mk (some 97) none (.k (.mov (.tmp 19))), .mk (some 98) none (.k (.lenS (.tmp 97))), .mk (some 21) none (.k (.mov (.tmp 98)))]) (.blk 2 (.loop (.ref 8)))) (.ref 14)
def T12n16 : XC := .seq (.ops [.mk (some 92) none (.k (.mov (.tmp 0))), .mk (some 93) none (.k (.mov (.tmp 2))), .mk (some 94) none (.call 41 [.tmp 92, .tmp 93, .const (.int .i64 512)]), .mk (some 91) none (.k (.mov (.tmp 94))), .mk (some 95) none (.k (.ext (.tmp 91) 0)), .mk (some 96) none (.k (.ext (.tmp 91) 1)), .mk (some 19) none (.k (.mov (.tmp 95))), .mk (some 20) none (.k (.mov (.tmp 96)))]) (.ref 15)
def T12n17 : XC := .seq (.ops [.mk (some 85) none (.k (.mov (.tmp 0))), .mk (some 86) none (.k (.mov (.tmp 2))), .mk (some 87) none (.call 40 [.tmp 85, .tmp 86]), .mk (some 84) none (.k (.mov (.tmp 87))), .mk (some 88) none (.k (.ext (.tmp 84) 0)), .mk (some 89) none (.k (.ext (.tmp 84) 1)), .mk (some 90) none (.k (.ext (.tmp 84) 2)), .mk (some 16) none (.k (.mov (.tmp 88))), .mk (some 17) none (.k (.mov (.tmp 89))), .mk (some 18) none (.k (.mov (.tmp 90)))]) (.ref 16)
def T12n18 : XC := .seq (.ops [.mk (some 78) none (.k (.mov (.tmp 12))), .mk (some 79) none (.k (.mov (.tmp 2))), .mk (some 80) none (.call 40 [.tmp 78, .tmp 79]), .mk (some 77) none (.k (.mov (.tmp 80))), .mk (some 81) none (.k (.ext (.tmp 77) 0)), .mk (some 82) none (.k (.ext (.tmp 77) 1)), .mk (some 83) none (.k (.ext (.tmp 77) 2)), .mk (some 13) none (.k (.mov (.tmp 81))), .mk (some 14) none (.k (.mov (.tmp 82))), .mk (some 15) none (.k (.mov (.tmp 83)))]) (.ref 17)
def T12n19 : XC := .seq (.ops [.mk (some 74) none (.k (.mov (.tmp 12))), .mk (some 75) none (.k (.mov (.tmp 1))), .mk (some 76) none (.k (.app 65 9 72 (.tmp 74) (.tmp 75))), .mk (some 12) none (.k (.mov (.tmp 76)))]) (.ref 18)
def T12n20 : XC := .seq (.ops [.mk (some 71) none (.k (.buildS 65 0 9 [.int .i64 0, .int .i64 0, .int .i64 0, .int .i64 0, .int .i64 0, .int .i64 0, .int .i64 0, .int .u64 0, .int .i64 0] [])), .mk (some 72) none (.k (.mov (.tmp 0))), .mk (some 73) none (.k (.app 65 9 72 (.tmp 71) (.tmp 72))), .mk (some 12) none (.k (.mov (.tmp 73)))]) (.ref 19)
def T12n21 : XC := .seq (.seq (.ops [.mk (some 11) none (.k (.mov (.const (.int .i64 0))))]) (.blk 0 (.loop (.ref 5)))) (.ref 20)
def T12n22 : XC := .seq (.seq (.ops [.mk (some 51) none (.k (.mov (.tmp 10))), .mk (some 52) none (.k (.not (.tmp 51))), .mk (some 53) none (.k (.mov (.tmp 52))), .mk (some 54) (some (53, false)) (.k (.mov (.tmp 9))), .mk (some 55) (some (53, false)) (.k (.cmp .neq .i64 (.tmp 54) (.const (.int .i64 0)))), .mk (some 56) none (.k (.pick (.tmp 53) (.const (.bool true)) (.tmp 55)))]) (.cond (.tmp 56) (.ref 1) .skip)) (.ref 21)
def T12n23 : XC := .seq (.ops [.mk (some 49) none (.k (.mov (.tmp 0))), .mk (some 50) none (.call 47 [.tmp 49]), .mk (some 10) none (.k (.mov (.tmp 50)))]) (.ref 22)
def T12n24 : XC := .seq (.ops [.mk (some 45) none (.k (.mov (.tmp 1))), .mk (some 46) none (.call 31 [.tmp 45]), .mk (some 44) none (.k (.mov (.tmp 46))), .mk (some 47) none (.k (.ext (.tmp 44) 0)), .mk (some 48) none (.k (.ext (.tmp 44) 1)), .mk (some 8) none (.k (.mov (.tmp 47))), .mk (some 9) none (.k (.mov (.tmp 48)))]) (.ref 23)
def T12n25 : XC := .seq (.seq (.ops [.mk (some 26) none (.k (.mov (.tmp 0))), .mk (some 27) none (.k (.lenS (.tmp 26))), .mk (some 28) none (.k (.cmp .gtr .i64 (.tmp 27) (.const (.int .i64 150)))), .mk (some 29) none (.k (.mov (.tmp 28))), .mk (some 30) (some (29, false)) (.k (.mov (.tmp 1))), .mk (some 31) (some (29, false)) (.k (.lenS (.tmp 30))), .mk (some 32) (some (29, false)) (.k (.cmp .gtr .i64 (.tmp 31) (.const (.int .i64 150)))), .mk (some 33) none (.k (.pick (.tmp 29) (.const (.bool true)) (.tmp 32))), .mk (some 34) none (.k (.mov (.tmp 33))), .mk (some 35) (some (34, false)) (.k (.mov (.tmp 2))), .mk (some 36) (some (34, false)) (.k (.lenS (.tmp 35))), .mk (some 37) (some (34, false)) (.k (.cmp .gtr .i64 (.tmp 36) (.const (.int .i64 600)))), .mk (some 38) none (.k (.pick (.tmp 34) (.const (.bool true)) (.tmp 37))), .mk (some 39) none (.k (.mov (.tmp 38))), .mk (some 40) (some (39, false)) (.k (.mov (.tmp 7))), .mk (some 41) (some (39, false)) (.k (.not (.tmp 40))), .mk (some 42) none (.k (.pick (.tmp 39) (.const (.bool true)) (.tmp 41)))]) (.cond (.tmp 42) (.ref 0) .skip)) (.ref 24)
def T12n26 : XC := .seq (.ops [.mk (some 25) none (.call 45 []), .mk (some 7) none (.k (.mov (.tmp 25)))]) (.ref 25)
def T12 : Nat → XC
 | 0 => T12n0
 | 1 => T12n1
 | 2 => T12n2
 | 3 => T12n3
 | 4 => T12n4
 | 5 => T12n5
 | 6 => T12n6
 | 7 => T12n7
 | 8 => T12n8
 | 9 => T12n9
 | 10 => T12n10
 | 11 => T12n11
 | 12 => T12n12
 | 13 => T12n13
 | 14 => T12n14
 | 15 => T12n15
 | 16 => T12n16
 | 17 => T12n17
 | 18 => T12n18
 | 19 => T12n19
 | 20 => T12n20
 | 21 => T12n21
 | 22 => T12n22
 | 23 => T12n23
 | 24 => T12n24
 | 25 => T12n25
 | 26 => T12n26
 | _ => .skip
theorem t12n0 : T12 0 = T12n0 := rfl
theorem t12n1 : T12 1 = T12n1 := rfl
theorem t12n2 : T12 2 = T12n2 := rfl
theorem t12n3 : T12 3 = T12n3 := rfl
theorem t12n4 : T12 4 = T12n4 := rfl
theorem t12n5 : T12 5 = T12n5 := rfl
theorem t12n6 : T12 6 = T12n6 := rfl
theorem t12n7 : T12 7 = T12n7 := rfl
theorem t12n8 : T12 8 = T12n8 := rfl
theorem t12n9 : T12 9 = T12n9 := rfl
theorem t12n10 : T12 10 = T12n10 := rfl
theorem t12n11 : T12 11 = T12n11 := rfl
theorem t12n12 : T12 12 = T12n12 := rfl
theorem t12n13 : T12 13 = T12n13 := rfl
theorem t12n14 : T12 14 = T12n14 := rfl
theorem t12n15 : T12 15 = T12n15 := rfl
theorem t12n16 : T12 16 = T12n16 := rfl
theorem t12n17 : T12 17 = T12n17 := rfl
theorem t12n18 : T12 18 = T12n18 := rfl
theorem t12n19 : T12 19 = T12n19 := rfl
theorem t12n20 : T12 20 = T12n20 := rfl
theorem t12n21 : T12 21 = T12n21 := rfl
theorem t12n22 : T12 22 = T12n22 := rfl
theorem t12n23 : T12 23 = T12n23 := rfl
theorem t12n24 : T12 24 = T12n24 := rfl
theorem t12n25 : T12 25 = T12n25 := rfl
theorem t12n26 : T12 26 = T12n26 := rfl
def X12 : XC := .seq (.ops [.mk (some 6) none (.k (.mov (.const (.bool false))))]) (.ref 26)
abbrev K12 : List Nat := [0, 1, 2, 6, 7, 9, 10, 11, 12, 13, 14, 15, 16, 17, 18, 19, 20, 21, 22, 23, 24, 42, 56, 61, 69, 102, 140, 142]
theorem n12 : Try.f12.ntmps = 161 := by kernel_rfl
theorem r12 : resT Try.f12.results.toList = some [6] := by kernel_rfl
theorem x12 : cmpF Try.prog Try.f12 = some (expand T12 28 X12) := by kernel_rfl
def T45n0 : XC := .seq (.ops [.mk (some 15) none (.k (.mov (.tmp 1))), .mk (some 16) none (.k (.cmp .eql .i64 (.tmp 15) (.const (.int .i64 0)))), .mk (some 17) none (.k (.mov (.tmp 16))), .mk (some 18) (some (17, true)) (.k (.mov (.tmp 2))), .mk (some 19) none (.k (.pick (.tmp 17) (.tmp 18) (.const (.bool false)))), .mk (some 20) none (.k (.mov (.tmp 19))), .mk (some 21) (some (20, true)) (.k (.mov (.tmp 3))), .mk (some 22) (some (20, true)) (.k (.cmp .eql .i64 (.tmp 21) (.const (.int .i64 0)))), .mk (some 23) none (.k (.pick (.tmp 20) (.tmp 22) (.const (.bool false)))), .mk (some 0) none (.k (.mov (.tmp 23)))]) .ret
def T45n1 : XC := .seq (.ops [.mk (some 5) none (.call 49 [.const (.int .i64 1), .const (.int .i64 0), .const (.int .i64 0), .const (.int .u64 0)]), .mk (some 6) none (.call 49 [.const (.int .i64 2), .const (.int .i64 0), .const (.int .i64 8), .const (.int .u64 0)]), .mk (some 7) none (.call 49 [.const (.int .i64 3), .const (.int .i64 0), .const (.int .i64 8), .const (.int .u64 5)]), .mk (some 8) none (.call 49 [.const (.int .i64 5), .const (.int .i64 0), .const (.int .i64 0), .const (.int .u64 0)]), .mk (some 9) none (.call 49 [.const (.int .i64 7), .const (.int .i64 1), .const (.int .i64 8), .const (.int .u64 5)]), .mk (some 10) none (.k (.buildS 65 5 9 [.int .i64 0, .int .i64 0, .int .i64 0, .int .i64 0, .int .i64 0, .int .i64 0, .int .i64 0, .int .u64 0, .int .i64 0] [(0, .tmp 5), (1, .tmp 6), (2, .tmp 7), (3, .tmp 8), (4, .tmp 9)])), .mk (some 11) none (.call 40 [.tmp 10, .const (.slice none 0 0)]), .mk (some 4) none (.k (.mov (.tmp 11))), .mk (some 12) none (.k (.ext (.tmp 4) 0)), .mk (some 13) none (.k (.ext (.tmp 4) 1)), .mk (some 14) none (.k (.ext (.tmp 4) 2)), .mk (some 1) none (.k (.mov (.tmp 12))), .mk (some 2) none (.k (.mov (.tmp 13))), .mk (some 3) none (.k (.mov (.tmp 14)))]) (.ref 0)
def T45 : Nat → XC
 | 0 => T45n0
 | 1 => T45n1
 | _ => .skip
theorem t45n0 : T45 0 = T45n0 := rfl
theorem t45n1 : T45 1 = T45n1 := rfl
def X45 : XC := .seq (.ops [.mk (some 0) none (.k (.mov (.const (.bool false))))]) (.ref 1)
abbrev K45 : List Nat := [0, 1, 2, 3]
theorem n45 : Try.f45.ntmps = 24 := by kernel_rfl
theorem r45 : resT Try.f45.results.toList = some [0] := by kernel_rfl
theorem x45 : cmpF Try.prog Try.f45 = some (expand T45 3 X45) := by kernel_rfl
def T47n0 : XC := .seq (.ops [.mk (some 2) none (.k (.mov (.const (.bool false))))]) .ret
def T47n1 : XC := .ops [.mk (some 15) none (.k (.mov (.tmp 5))), .mk (some 16) none (.k (.arith .add .i64 (.tmp 15) (.const (.int .i64 1)))), .mk (some 5) none (.k (.mov (.tmp 16)))]
def T47n2 : XC := .seq (.blk 1 (.seq (.ops [.mk (some 17) none (.k (.mov (.tmp 3))), .mk (some 18) none (.k (.mov (.tmp 5))), .mk (some 19) none (.k (.idx 11 (.tmp 17) (.tmp 18))), .mk (some 20) none (.k (.fld 6 (.tmp 19))), .mk (some 21) none (.k (.load [.int .i64] false (.tmp 20))), .mk (some 22) none (.k (.cmp .lss .i64 (.tmp 21) (.const (.int .i64 0))))]) (.cond (.tmp 22) (.ref 0) .skip))) (.ref 1)
def T47n3 : XC := .seq (.seq (.ops [.mk (some 11) none (.k (.mov (.tmp 5))), .mk (some 12) none (.k (.mov (.tmp 3))), .mk (some 13) none (.k (.lenS (.tmp 12))), .mk (some 14) none (.k (.cmp .lss .i64 (.tmp 11) (.tmp 13)))]) (.cond (.tmp 14) .skip (.exit 0))) (.ref 2)
def T47n4 : XC := .seq (.ops [.mk (some 23) none (.k (.mov (.tmp 4))), .mk (some 24) none (.k (.cmp .eql .i64 (.tmp 23) (.const (.int .i64 0)))), .mk (some 2) none (.k (.mov (.tmp 24)))]) .ret
def T47n5 : XC := .seq (.seq (.ops [.mk (some 5) none (.k (.mov (.const (.int .i64 0))))]) (.blk 0 (.loop (.ref 3)))) (.ref 4)
def T47n6 : XC := .seq (.ops [.mk (some 7) none (.k (.mov (.tmp 0))), .mk (some 8) none (.call 31 [.tmp 7]), .mk (some 6) none (.k (.mov (.tmp 8))), .mk (some 9) none (.k (.ext (.tmp 6) 0)), .mk (some 10) none (.k (.ext (.tmp 6) 1)), .mk (some 3) none (.k (.mov (.tmp 9))), .mk (some 4) none (.k (.mov (.tmp 10)))]) (.ref 5)
def T47 : Nat → XC
 | 0 => T47n0
 | 1 => T47n1
 | 2 => T47n2
 | 3 => T47n3
 | 4 => T47n4
 | 5 => T47n5
 | 6 => T47n6
 | _ => .skip
theorem t47n0 : T47 0 = T47n0 := rfl
theorem t47n1 : T47 1 = T47n1 := rfl
theorem t47n2 : T47 2 = T47n2 := rfl
theorem t47n3 : T47 3 = T47n3 := rfl
theorem t47n4 : T47 4 = T47n4 := rfl
theorem t47n5 : T47 5 = T47n5 := rfl
theorem t47n6 : T47 6 = T47n6 := rfl
def X47 : XC := .seq (.ops [.mk (some 2) none (.k (.mov (.const (.bool false))))]) (.ref 6)
abbrev K47 : List Nat := [0, 2, 3, 4, 5, 14, 22]
theorem n47 : Try.f47.ntmps = 25 := by kernel_rfl
theorem r47 : resT Try.f47.results.toList = some [2] := by kernel_rfl
theorem x47 : cmpF Try.prog Try.f47 = some (expand T47 8 X47) := by kernel_rfl
def T49n0 : XC := .seq (.ops [.mk (some 9) none (.k (.mov (.tmp 0))), .mk (some 10) none (.k (.mov (.tmp 1))), .mk (some 11) none (.k (.mov (.tmp 2))), .mk (some 12) none (.k (.mov (.tmp 3))), .mk (some 13) none (.k (.mov (.tmp 1))), .mk (some 14) none (.k (.arith .mul .i64 (.const (.int .i64 2)) (.tmp 13))), .mk (some 15) none (.k (.arith .add .i64 (.const (.int .i64 1)) (.tmp 14))), .mk (some 16) none (.k (.build [.int .i64 0, .int .i64 0, .int .i64 0, .int .i64 0, .int .i64 0, .int .i64 0, .int .i64 0, .int .u64 0, .int .i64 0] [(0, 1, .tmp 9), (2, 1, .tmp 10), (6, 1, .tmp 11), (7, 1, .tmp 12), (5, 1, .tmp 15)])), .mk none none (.k (.store 9 (.tmp 8) (.tmp 16)))]) .ret
def T49 : Nat → XC
 | 0 => T49n0
 | _ => .skip
theorem t49n0 : T49 0 = T49n0 := rfl
def X49 : XC := .seq (.ops [.mk (some 8) none (.k (.alloc 65 [.int .i64 0, .int .i64 0, .int .i64 0, .int .i64 0, .int .i64 0, .int .i64 0, .int .i64 0, .int .u64 0, .int .i64 0]))]) (.ref 0)
abbrev K49 : List Nat := [0, 1, 2, 3, 8]
theorem n49 : Try.f49.ntmps = 17 := by kernel_rfl
theorem r49 : rvOf Try.prog Try.f49.results.toList = some [RV.cell 8 9 true] := by kernel_rfl
theorem x49 : cmpF Try.prog Try.f49 = some (expand T49 2 X49) := by kernel_rfl
end Go.Proofs.Ytnedgfkgmdoahaa
