/- Printed by program: the small code of functions, and that it is theirs. -/
import Derived.Test.YtlbiogokpadaoaaGreatDoorSxStill
import Derived.Test.YtlbiogokpadaoaaGreatDoorProg
import Derived.KernelRfl
set_option linter.unusedSimpArgs false
set_option linter.unusedVariables false
set_option linter.unnecessarySimpa false
namespace Go.Proofs.YtlbiogokpadaoaaGreatDoor
open Go Go.Sx
set_option maxRecDepth 100000
def T9n0 : XC := .seq (.ops [.mk (some 29) none (.k (.mov (.tmp 5))), .mk (some 4) none (.k (.mov (.tmp 29)))]) .ret
def T9n1 : XC := .seq (.ops [.mk (some 76) none (.k (.mov (.tmp 5))), .mk (some 4) none (.k (.mov (.tmp 76)))]) .ret
def T9n2 : XC := .seq (.ops [.mk (some 72) none (.k (.mov (.tmp 7))), .mk (some 73) none (.k (.mov (.tmp 72))), .mk (some 74) (some (73, true)) (.k (.mov (.tmp 8))), .mk (some 75) none (.k (.pick (.tmp 73) (.tmp 74) (.const (.bool false))))]) (.cond (.tmp 75) (.ref 1) .skip)
def T9n3 : XC := .seq (.ops [.mk (some 40) none (.k (.mov (.tmp 0))), .mk (some 41) none (.k (.mov (.tmp 6))), .mk (some 42) none (.k (.idx 5 (.tmp 40) (.tmp 41))), .mk (some 43) none (.k (.fld 0 (.tmp 42))), .mk (some 44) none (.k (.load [.int .i64] false (.tmp 43))), .mk (some 45) none (.k (.cmp .geq .i64 (.tmp 44) (.const (.int .i64 13)))), .mk (some 46) none (.k (.mov (.tmp 45))), .mk (some 47) (some (46, true)) (.k (.mov (.tmp 0))), .mk (some 48) (some (46, true)) (.k (.mov (.tmp 6))), .mk (some 49) (some (46, true)) (.k (.idx 5 (.tmp 47) (.tmp 48))), .mk (some 50) (some (46, true)) (.k (.fld 0 (.tmp 49))), .mk (some 51) (some (46, true)) (.k (.load [.int .i64] false (.tmp 50))), .mk (some 52) (some (46, true)) (.k (.cmp .leq .i64 (.tmp 51) (.const (.int .i64 16)))), .mk (some 53) none (.k (.pick (.tmp 46) (.tmp 52) (.const (.bool false)))), .mk (some 54) none (.k (.mov (.tmp 53))), .mk (some 55) (some (54, true)) (.k (.mov (.tmp 0))), .mk (some 56) (some (54, true)) (.k (.mov (.tmp 6))), .mk (some 57) (some (54, true)) (.k (.idx 5 (.tmp 55) (.tmp 56))), .mk (some 58) (some (54, true)) (.k (.fld 4 (.tmp 57))), .mk (some 59) (some (54, true)) (.k (.load [.int .i64] false (.tmp 58))), .mk (some 60) (some (54, true)) (.k (.mov (.tmp 0))), .mk (some 61) (some (54, true)) (.k (.lenS (.tmp 60))), .mk (some 62) (some (54, true)) (.k (.cmp .geq .i64 (.tmp 59) (.tmp 61))), .mk (some 63) none (.k (.pick (.tmp 54) (.tmp 62) (.const (.bool false)))), .mk (some 64) none (.k (.mov (.tmp 63))), .mk (some 65) (some (64, true)) (.k (.mov (.tmp 0))), .mk (some 66) (some (64, true)) (.k (.mov (.tmp 6))), .mk (some 67) (some (64, true)) (.k (.idx 5 (.tmp 65) (.tmp 66))), .mk (some 68) (some (64, true)) (.k (.fld 4 (.tmp 67))), .mk (some 69) (some (64, true)) (.k (.load [.int .i64] false (.tmp 68))), .mk (some 70) (some (64, true)) (.k (.cmp .leq .i64 (.tmp 69) (.const (.int .i64 1024)))), .mk (some 71) none (.k (.pick (.tmp 64) (.tmp 70) (.const (.bool false)))), .mk (some 8) none (.k (.mov (.tmp 71)))]) (.ref 2)
def T9n4 : XC := .seq (.ops [.mk (some 35) none (.k (.mov (.tmp 0))), .mk (some 36) none (.k (.mov (.tmp 6))), .mk (some 37) none (.k (.idx 5 (.tmp 35) (.tmp 36))), .mk (some 38) none (.k (.load [.int .i64, .int .i64, .int .i64, .int .i64, .int .i64] true (.tmp 37))), .mk (some 39) none (.call 21 [.tmp 38]), .mk (some 7) none (.k (.mov (.tmp 39)))]) (.ref 3)
def T9n5 : XC := .seq (.blk 1 (.seq (.ops [.mk (some 34) none (.k (.mov (.tmp 32))), .mk (some 6) none (.k (.mov (.tmp 34)))]) (.ref 4))) (.ops [.mk (some 77) none (.k (.arith .add .i64 (.tmp 32) (.const (.int .i64 1)))), .mk (some 32) none (.k (.mov (.tmp 77)))])
def T9n6 : XC := .seq (.cond (.tmp 33) .skip (.exit 0)) (.ref 5)
def T9n7 : XC := .seq (.ops [.mk (some 33) none (.k (.cmp .lss .i64 (.tmp 32) (.tmp 31)))]) (.ref 6)
def T9n8 : XC := .seq (.ops [.mk (some 101) none (.k (.mov (.tmp 5))), .mk (some 4) none (.k (.mov (.tmp 101)))]) .ret
def T9n9 : XC := .seq (.ops [.mk (some 105) none (.k (.mov (.tmp 5))), .mk (some 4) none (.k (.mov (.tmp 105)))]) .ret
def T9n10 : XC := .seq (.ops [.mk (some 4) none (.k (.mov (.const (.bool false))))]) .ret
def T9n11 : XC := .seq (.ops [.mk (some 4) none (.k (.mov (.const (.bool false))))]) .ret
def T9n12 : XC := .seq (.seq (.ops [.mk (some 140) none (.k (.mov (.tmp 12))), .mk (some 141) none (.k (.mov (.tmp 15))), .mk (some 142) none (.k (.idx 2 (.tmp 140) (.tmp 141))), .mk (some 143) none (.k (.fld 0 (.tmp 142))), .mk (some 144) none (.k (.load [.int .i64] false (.tmp 143))), .mk (some 145) none (.k (.cmp .neq .i64 (.tmp 144) (.const (.int .i64 8))))]) (.cond (.tmp 145) (.ref 11) .skip)) (.exit 3)
def T9n13 : XC := .seq (.ops [.mk (some 4) none (.k (.mov (.const (.bool false))))]) .ret
def T9n14 : XC := .ops [.mk (some 161) none (.k (.mov (.tmp 14))), .mk (some 162) none (.k (.arith .add .i64 (.tmp 161) (.const (.int .i64 1)))), .mk (some 14) none (.k (.mov (.tmp 162)))]
def T9n15 : XC := .seq (.seq (.ops [.mk (some 146) none (.k (.mov (.tmp 14))), .mk (some 147) none (.k (.mov (.tmp 9))), .mk (some 148) none (.k (.lenS (.tmp 147))), .mk (some 149) none (.k (.cmp .geq .i64 (.tmp 146) (.tmp 148))), .mk (some 150) none (.k (.mov (.tmp 149))), .mk (some 151) (some (150, false)) (.k (.mov (.tmp 12))), .mk (some 152) (some (150, false)) (.k (.mov (.tmp 15))), .mk (some 153) (some (150, false)) (.k (.idx 2 (.tmp 151) (.tmp 152))), .mk (some 154) (some (150, false)) (.k (.load [.int .i64, .int .i64] true (.tmp 153))), .mk (some 155) (some (150, false)) (.k (.mov (.tmp 9))), .mk (some 156) (some (150, false)) (.k (.mov (.tmp 14))), .mk (some 157) (some (150, false)) (.k (.idx 2 (.tmp 155) (.tmp 156))), .mk (some 158) (some (150, false)) (.k (.load [.int .i64, .int .i64] true (.tmp 157))), .mk (some 159) (some (150, false)) (.k (.eqa true [.int .i64, .int .i64] (.tmp 154) (.tmp 158))), .mk (some 160) none (.k (.pick (.tmp 150) (.const (.bool true)) (.tmp 159)))]) (.cond (.tmp 160) (.ref 13) .skip)) (.ref 14)
def T9n16 : XC := .seq (.seq (.ops [.mk (some 132) none (.k (.mov (.tmp 12))), .mk (some 133) none (.k (.mov (.tmp 15))), .mk (some 134) none (.k (.idx 2 (.tmp 132) (.tmp 133))), .mk (some 135) none (.k (.fld 1 (.tmp 134))), .mk (some 136) none (.k (.load [.int .i64] false (.tmp 135))), .mk (some 137) none (.k (.mov (.tmp 0))), .mk (some 138) none (.k (.lenS (.tmp 137))), .mk (some 139) none (.k (.cmp .geq .i64 (.tmp 136) (.tmp 138)))]) (.cond (.tmp 139) (.ref 12) .skip)) (.ref 15)
def T9n17 : XC := .seq (.blk 3 (.seq (.ops [.mk (some 131) none (.k (.mov (.tmp 129))), .mk (some 15) none (.k (.mov (.tmp 131)))]) (.ref 16))) (.ops [.mk (some 163) none (.k (.arith .add .i64 (.tmp 129) (.const (.int .i64 1)))), .mk (some 129) none (.k (.mov (.tmp 163)))])
def T9n18 : XC := .seq (.cond (.tmp 130) .skip (.exit 2)) (.ref 17)
def T9n19 : XC := .seq (.ops [.mk (some 130) none (.k (.cmp .lss .i64 (.tmp 129) (.tmp 128)))]) (.ref 18)
def T9n20 : XC := .seq (.ops [.mk (some 164) none (.k (.mov (.tmp 5))), .mk (some 165) none (.k (.mov (.tmp 164))), .mk (some 166) (some (165, true)) (.k (.mov (.tmp 14))), .mk (some 167) (some (165, true)) (.k (.mov (.tmp 9))), .mk (some 168) (some (165, true)) (.k (.lenS (.tmp 167))), .mk (some 169) (some (165, true)) (.k (.cmp .eql .i64 (.tmp 166) (.tmp 168))), .mk (some 170) none (.k (.pick (.tmp 165) (.tmp 169) (.const (.bool false)))), .mk (some 171) none (.k (.mov (.tmp 170))), .mk (some 172) (some (171, true)) (.k (.mov (.tmp 12))), .mk (some 173) (some (171, true)) (.k (.lenS (.tmp 172))), .mk (some 174) (some (171, true)) (.k (.mov (.tmp 14))), .mk (some 175) (some (171, true)) (.k (.mov (.tmp 1))), .mk (some 176) (some (171, true)) (.k (.lenS (.tmp 175))), .mk (some 177) (some (171, true)) (.k (.arith .add .i64 (.tmp 174) (.tmp 176))), .mk (some 178) (some (171, true)) (.k (.cmp .eql .i64 (.tmp 173) (.tmp 177))), .mk (some 179) none (.k (.pick (.tmp 171) (.tmp 178) (.const (.bool false)))), .mk (some 4) none (.k (.mov (.tmp 179)))]) .ret
def T9n21 : XC := .seq (.seq (.ops [.mk (some 127) none (.k (.mov (.tmp 12))), .mk (some 128) none (.k (.lenS (.tmp 127))), .mk (some 129) none (.k (.mov (.const (.int .i64 0))))]) (.blk 2 (.loop (.ref 19)))) (.ref 20)
def T9n22 : XC := .seq (.ops [.mk (some 14) none (.k (.mov (.const (.int .i64 0))))]) (.ref 21)
def T9n23 : XC := .seq (.seq (.ops [.mk (some 121) none (.k (.mov (.tmp 10))), .mk (some 122) none (.k (.cmp .neq .i64 (.tmp 121) (.const (.int .i64 0)))), .mk (some 123) none (.k (.mov (.tmp 122))), .mk (some 124) (some (123, false)) (.k (.mov (.tmp 13))), .mk (some 125) (some (123, false)) (.k (.cmp .neq .i64 (.tmp 124) (.const (.int .i64 0)))), .mk (some 126) none (.k (.pick (.tmp 123) (.const (.bool true)) (.tmp 125)))]) (.cond (.tmp 126) (.ref 10) .skip)) (.ref 22)
def T9n24 : XC := .seq (.ops [.mk (some 117) none (.k (.mov (.tmp 11))), .mk (some 118) none (.call 22 [.tmp 117]), .mk (some 116) none (.k (.mov (.tmp 118))), .mk (some 119) none (.k (.ext (.tmp 116) 0)), .mk (some 120) none (.k (.ext (.tmp 116) 1)), .mk (some 12) none (.k (.mov (.tmp 119))), .mk (some 13) none (.k (.mov (.tmp 120)))]) (.ref 23)
def T9n25 : XC := .seq (.ops [.mk (some 111) none (.k (.buildS 41 0 5 [.int .i64 0, .int .i64 0, .int .i64 0, .int .i64 0, .int .i64 0] [])), .mk (some 112) none (.k (.mov (.tmp 0))), .mk (some 113) none (.k (.app 41 5 40 (.tmp 111) (.tmp 112))), .mk (some 114) none (.k (.mov (.tmp 1))), .mk (some 115) none (.k (.app 41 5 40 (.tmp 113) (.tmp 114))), .mk (some 11) none (.k (.mov (.tmp 115)))]) (.ref 24)
def T9n26 : XC := .seq (.ops [.mk (some 107) none (.k (.mov (.tmp 0))), .mk (some 108) none (.call 22 [.tmp 107]), .mk (some 106) none (.k (.mov (.tmp 108))), .mk (some 109) none (.k (.ext (.tmp 106) 0)), .mk (some 110) none (.k (.ext (.tmp 106) 1)), .mk (some 9) none (.k (.mov (.tmp 109))), .mk (some 10) none (.k (.mov (.tmp 110)))]) (.ref 25)
def T9n27 : XC := .seq (.seq (.ops [.mk (some 102) none (.k (.mov (.tmp 0))), .mk (some 103) none (.k (.lenS (.tmp 102))), .mk (some 104) none (.k (.cmp .eql .i64 (.tmp 103) (.const (.int .i64 0))))]) (.cond (.tmp 104) (.ref 9) .skip)) (.ref 26)
def T9n28 : XC := .seq (.seq (.ops [.mk (some 78) none (.k (.mov (.tmp 0))), .mk (some 79) none (.k (.lenS (.tmp 78))), .mk (some 80) none (.k (.cmp .gtr .i64 (.tmp 79) (.const (.int .i64 0)))), .mk (some 81) none (.k (.mov (.tmp 80))), .mk (some 82) (some (81, true)) (.k (.mov (.tmp 0))), .mk (some 83) (some (81, true)) (.k (.mov (.tmp 0))), .mk (some 84) (some (81, true)) (.k (.lenS (.tmp 83))), .mk (some 85) (some (81, true)) (.k (.arith .sub .i64 (.tmp 84) (.const (.int .i64 1)))), .mk (some 86) (some (81, true)) (.k (.idx 5 (.tmp 82) (.tmp 85))), .mk (some 87) (some (81, true)) (.k (.fld 0 (.tmp 86))), .mk (some 88) (some (81, true)) (.k (.load [.int .i64] false (.tmp 87))), .mk (some 89) (some (81, true)) (.k (.cmp .neq .i64 (.tmp 88) (.const (.int .i64 1)))), .mk (some 90) none (.k (.pick (.tmp 81) (.tmp 89) (.const (.bool false)))), .mk (some 91) none (.k (.mov (.tmp 90))), .mk (some 92) (some (91, true)) (.k (.mov (.tmp 0))), .mk (some 93) (some (91, true)) (.k (.mov (.tmp 0))), .mk (some 94) (some (91, true)) (.k (.lenS (.tmp 93))), .mk (some 95) (some (91, true)) (.k (.arith .sub .i64 (.tmp 94) (.const (.int .i64 1)))), .mk (some 96) (some (91, true)) (.k (.idx 5 (.tmp 92) (.tmp 95))), .mk (some 97) (some (91, true)) (.k (.fld 0 (.tmp 96))), .mk (some 98) (some (91, true)) (.k (.load [.int .i64] false (.tmp 97))), .mk (some 99) (some (91, true)) (.k (.cmp .neq .i64 (.tmp 98) (.const (.int .i64 13)))), .mk (some 100) none (.k (.pick (.tmp 91) (.tmp 99) (.const (.bool false))))]) (.cond (.tmp 100) (.ref 8) .skip)) (.ref 27)
def T9n29 : XC := .seq (.seq (.ops [.mk (some 30) none (.k (.mov (.tmp 0))), .mk (some 31) none (.k (.lenS (.tmp 30))), .mk (some 32) none (.k (.mov (.const (.int .i64 0))))]) (.blk 0 (.loop (.ref 7)))) (.ref 28)
def T9n30 : XC := .seq (.seq (.ops [.mk (some 17) none (.k (.mov (.tmp 0))), .mk (some 18) none (.k (.lenS (.tmp 17))), .mk (some 19) none (.k (.cmp .gtr .i64 (.tmp 18) (.const (.int .i64 200)))), .mk (some 20) none (.k (.mov (.tmp 19))), .mk (some 21) (some (20, false)) (.k (.mov (.tmp 1))), .mk (some 22) (some (20, false)) (.k (.lenS (.tmp 21))), .mk (some 23) (some (20, false)) (.k (.cmp .gtr .i64 (.tmp 22) (.const (.int .i64 200)))), .mk (some 24) none (.k (.pick (.tmp 20) (.const (.bool true)) (.tmp 23))), .mk (some 25) none (.k (.mov (.tmp 24))), .mk (some 26) (some (25, false)) (.k (.mov (.tmp 5))), .mk (some 27) (some (25, false)) (.k (.not (.tmp 26))), .mk (some 28) none (.k (.pick (.tmp 25) (.const (.bool true)) (.tmp 27)))]) (.cond (.tmp 28) (.ref 0) .skip)) (.ref 29)
def T9n31 : XC := .seq (.ops [.mk (some 16) none (.call 20 []), .mk (some 5) none (.k (.mov (.tmp 16)))]) (.ref 30)
def T9 : Nat → XC
 | 0 => T9n0
 | 1 => T9n1
 | 2 => T9n2
 | 3 => T9n3
 | 4 => T9n4
 | 5 => T9n5
 | 6 => T9n6
 | 7 => T9n7
 | 8 => T9n8
 | 9 => T9n9
 | 10 => T9n10
 | 11 => T9n11
 | 12 => T9n12
 | 13 => T9n13
 | 14 => T9n14
 | 15 => T9n15
 | 16 => T9n16
 | 17 => T9n17
 | 18 => T9n18
 | 19 => T9n19
 | 20 => T9n20
 | 21 => T9n21
 | 22 => T9n22
 | 23 => T9n23
 | 24 => T9n24
 | 25 => T9n25
 | 26 => T9n26
 | 27 => T9n27
 | 28 => T9n28
 | 29 => T9n29
 | 30 => T9n30
 | 31 => T9n31
 | _ => .skip
theorem t9n0 : T9 0 = T9n0 := rfl
theorem t9n1 : T9 1 = T9n1 := rfl
theorem t9n2 : T9 2 = T9n2 := rfl
theorem t9n3 : T9 3 = T9n3 := rfl
theorem t9n4 : T9 4 = T9n4 := rfl
theorem t9n5 : T9 5 = T9n5 := rfl
theorem t9n6 : T9 6 = T9n6 := rfl
theorem t9n7 : T9 7 = T9n7 := rfl
theorem t9n8 : T9 8 = T9n8 := rfl
theorem t9n9 : T9 9 = T9n9 := rfl
theorem t9n10 : T9 10 = T9n10 := rfl
theorem t9n11 : T9 11 = T9n11 := rfl
theorem t9n12 : T9 12 = T9n12 := rfl
theorem t9n13 : T9 13 = T9n13 := rfl
theorem t9n14 : T9 14 = T9n14 := rfl
theorem t9n15 : T9 15 = T9n15 := rfl
theorem t9n16 : T9 16 = T9n16 := rfl
theorem t9n17 : T9 17 = T9n17 := rfl
theorem t9n18 : T9 18 = T9n18 := rfl
theorem t9n19 : T9 19 = T9n19 := rfl
theorem t9n20 : T9 20 = T9n20 := rfl
theorem t9n21 : T9 21 = T9n21 := rfl
theorem t9n22 : T9 22 = T9n22 := rfl
theorem t9n23 : T9 23 = T9n23 := rfl
theorem t9n24 : T9 24 = T9n24 := rfl
theorem t9n25 : T9 25 = T9n25 := rfl
theorem t9n26 : T9 26 = T9n26 := rfl
theorem t9n27 : T9 27 = T9n27 := rfl
theorem t9n28 : T9 28 = T9n28 := rfl
theorem t9n29 : T9 29 = T9n29 := rfl
theorem t9n30 : T9 30 = T9n30 := rfl
theorem t9n31 : T9 31 = T9n31 := rfl
def X9 : XC := .seq (.ops [.mk (some 4) none (.k (.mov (.const (.bool false))))]) (.ref 31)
abbrev K9 : List Nat := [0, 1, 4, 5, 6, 7, 8, 9, 10, 11, 12, 13, 14, 15, 28, 31, 32, 33, 75, 100, 104, 126, 128, 129, 130, 139, 145, 160]
theorem n9 : Tryz.f9.ntmps = 180 := by kernel_rfl
theorem r9 : resT Tryz.f9.results.toList = some [4] := by kernel_rfl
theorem x9 : cmpF Tryz.prog Tryz.f9 = some (expand T9 33 X9) := by kernel_rfl
end Go.Proofs.YtlbiogokpadaoaaGreatDoor
