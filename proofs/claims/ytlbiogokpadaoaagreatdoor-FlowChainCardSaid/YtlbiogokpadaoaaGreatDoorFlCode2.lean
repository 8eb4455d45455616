/- Printed by program: the small code of functions, and that it is theirs. -/
import Derived.Test.YtlbiogokpadaoaaGreatDoorSxStill
import Derived.Test.YtlbiogokpadaoaaGreatDoorProg
import Derived.KernelRfl
set_option linter.unusedSimpArgs false
set_option linter.unusedVariables false
set_option linter.unnecessarySimpa false
namespace Go.Proofs.YtlbiogokpadaoaaGreatDoor
open Go Go.Sx
set_option maxRecDepth 100000
def T8n0 : XC := .seq (.ops [.mk (some 20) none (.k (.mov (.tmp 3))), .mk (some 2) none (.k (.mov (.tmp 20)))]) .ret
def T8n1 : XC := .seq (.ops [.mk (some 2) none (.k (.mov (.const (.bool false))))]) .ret
def T8n2 : XC := .seq (.ops [.mk (some 2) none (.k (.mov (.const (.bool false))))]) .ret
def T8n3 : XC := .ops [.mk (some 48) none (.k (.mov (.tmp 8))), .mk (some 49) none (.k (.arith .add .i64 (.tmp 48) (.const (.int .i64 1)))), .mk (some 8) none (.k (.mov (.tmp 49)))]
def T8n4 : XC := .seq (.blk 1 (.seq (.ops [.mk (some 50) none (.k (.mov (.tmp 4))), .mk (some 51) none (.k (.mov (.tmp 8))), .mk (some 52) none (.k (.idx 1 (.tmp 50) (.tmp 51))), .mk (some 53) none (.k (.load [.slc] false (.tmp 52))), .mk (some 54) none (.k (.lenS (.tmp 53))), .mk (some 55) none (.k (.mov (.tmp 4))), .mk (some 56) none (.k (.lenS (.tmp 55))), .mk (some 57) none (.k (.cmp .neq .i64 (.tmp 54) (.tmp 56)))]) (.cond (.tmp 57) (.ref 2) .skip))) (.ref 3)
def T8n5 : XC := .seq (.seq (.ops [.mk (some 44) none (.k (.mov (.tmp 8))), .mk (some 45) none (.k (.mov (.tmp 4))), .mk (some 46) none (.k (.lenS (.tmp 45))), .mk (some 47) none (.k (.cmp .lss .i64 (.tmp 44) (.tmp 46)))]) (.cond (.tmp 47) .skip (.exit 0))) (.ref 4)
def T8n6 : XC := .seq (.ops [.mk (some 2) none (.k (.mov (.const (.bool false))))]) .ret
def T8n7 : XC := .seq (.ops [.mk (some 2) none (.k (.mov (.const (.bool false))))]) .ret
def T8n8 : XC := .seq (.ops [.mk (some 2) none (.k (.mov (.const (.bool false))))]) .ret
def T8n9 : XC := .ops [.mk (some 113) none (.k (.mov (.tmp 11))), .mk (some 114) none (.k (.arith .add .i64 (.tmp 113) (.const (.int .i64 1)))), .mk (some 11) none (.k (.mov (.tmp 114)))]
def T8n10 : XC := .seq (.blk 7 (.seq (.ops [.mk (some 115) none (.k (.mov (.tmp 4))), .mk (some 116) none (.k (.mov (.tmp 10))), .mk (some 117) none (.k (.idx 1 (.tmp 115) (.tmp 116))), .mk (some 118) none (.k (.load [.slc] false (.tmp 117))), .mk (some 119) none (.k (.mov (.tmp 9))), .mk (some 120) none (.k (.idx 1 (.tmp 118) (.tmp 119))), .mk (some 121) none (.k (.load [.bool] false (.tmp 120))), .mk (some 122) none (.k (.mov (.tmp 121))), .mk (some 123) (some (122, true)) (.k (.mov (.tmp 4))), .mk (some 124) (some (122, true)) (.k (.mov (.tmp 11))), .mk (some 125) (some (122, true)) (.k (.idx 1 (.tmp 123) (.tmp 124))), .mk (some 126) (some (122, true)) (.k (.load [.slc] false (.tmp 125))), .mk (some 127) (some (122, true)) (.k (.mov (.tmp 9))), .mk (some 128) (some (122, true)) (.k (.idx 1 (.tmp 126) (.tmp 127))), .mk (some 129) (some (122, true)) (.k (.load [.bool] false (.tmp 128))), .mk (some 130) none (.k (.pick (.tmp 122) (.tmp 129) (.const (.bool false)))), .mk (some 131) none (.k (.mov (.tmp 130))), .mk (some 132) (some (131, true)) (.k (.mov (.tmp 4))), .mk (some 133) (some (131, true)) (.k (.mov (.tmp 10))), .mk (some 134) (some (131, true)) (.k (.idx 1 (.tmp 132) (.tmp 133))), .mk (some 135) (some (131, true)) (.k (.load [.slc] false (.tmp 134))), .mk (some 136) (some (131, true)) (.k (.mov (.tmp 11))), .mk (some 137) (some (131, true)) (.k (.idx 1 (.tmp 135) (.tmp 136))), .mk (some 138) (some (131, true)) (.k (.load [.bool] false (.tmp 137))), .mk (some 139) (some (131, true)) (.k (.not (.tmp 138))), .mk (some 140) none (.k (.pick (.tmp 131) (.tmp 139) (.const (.bool false)))), .mk (some 141) none (.k (.mov (.tmp 140))), .mk (some 142) (some (141, true)) (.k (.mov (.tmp 4))), .mk (some 143) (some (141, true)) (.k (.mov (.tmp 11))), .mk (some 144) (some (141, true)) (.k (.idx 1 (.tmp 142) (.tmp 143))), .mk (some 145) (some (141, true)) (.k (.load [.slc] false (.tmp 144))), .mk (some 146) (some (141, true)) (.k (.mov (.tmp 10))), .mk (some 147) (some (141, true)) (.k (.idx 1 (.tmp 145) (.tmp 146))), .mk (some 148) (some (141, true)) (.k (.load [.bool] false (.tmp 147))), .mk (some 149) (some (141, true)) (.k (.not (.tmp 148))), .mk (some 150) none (.k (.pick (.tmp 141) (.tmp 149) (.const (.bool false))))]) (.cond (.tmp 150) (.ref 8) .skip))) (.ref 9)
def T8n11 : XC := .seq (.seq (.ops [.mk (some 109) none (.k (.mov (.tmp 11))), .mk (some 110) none (.k (.mov (.tmp 4))), .mk (some 111) none (.k (.lenS (.tmp 110))), .mk (some 112) none (.k (.cmp .lss .i64 (.tmp 109) (.tmp 111)))]) (.cond (.tmp 112) .skip (.exit 6))) (.ref 10)
def T8n12 : XC := .seq (.ops [.mk (some 11) none (.k (.mov (.const (.int .i64 0))))]) (.blk 6 (.loop (.ref 11)))
def T8n13 : XC := .ops [.mk (some 93) none (.k (.mov (.tmp 10))), .mk (some 94) none (.k (.arith .add .i64 (.tmp 93) (.const (.int .i64 1)))), .mk (some 10) none (.k (.mov (.tmp 94)))]
def T8n14 : XC := .seq (.blk 5 (.seq (.seq (.ops [.mk (some 95) none (.k (.mov (.tmp 4))), .mk (some 96) none (.k (.mov (.tmp 10))), .mk (some 97) none (.k (.idx 1 (.tmp 95) (.tmp 96))), .mk (some 98) none (.k (.load [.slc] false (.tmp 97))), .mk (some 99) none (.k (.mov (.tmp 9))), .mk (some 100) none (.k (.idx 1 (.tmp 98) (.tmp 99))), .mk (some 101) none (.k (.load [.bool] false (.tmp 100))), .mk (some 102) none (.k (.mov (.tmp 101))), .mk (some 103) (some (102, true)) (.k (.mov (.tmp 6))), .mk (some 104) (some (102, true)) (.k (.mov (.tmp 10))), .mk (some 105) (some (102, true)) (.k (.idx 1 (.tmp 103) (.tmp 104))), .mk (some 106) (some (102, true)) (.k (.load [.bool] false (.tmp 105))), .mk (some 107) (some (102, true)) (.k (.not (.tmp 106))), .mk (some 108) none (.k (.pick (.tmp 102) (.tmp 107) (.const (.bool false))))]) (.cond (.tmp 108) (.ref 7) .skip)) (.ref 12))) (.ref 13)
def T8n15 : XC := .seq (.seq (.ops [.mk (some 89) none (.k (.mov (.tmp 10))), .mk (some 90) none (.k (.mov (.tmp 4))), .mk (some 91) none (.k (.lenS (.tmp 90))), .mk (some 92) none (.k (.cmp .lss .i64 (.tmp 89) (.tmp 91)))]) (.cond (.tmp 92) .skip (.exit 4))) (.ref 14)
def T8n16 : XC := .seq (.ops [.mk (some 10) none (.k (.mov (.const (.int .i64 0))))]) (.blk 4 (.loop (.ref 15)))
def T8n17 : XC := .ops [.mk (some 62) none (.k (.mov (.tmp 9))), .mk (some 63) none (.k (.arith .add .i64 (.tmp 62) (.const (.int .i64 1)))), .mk (some 9) none (.k (.mov (.tmp 63)))]
def T8n18 : XC := .seq (.blk 3 (.seq (.seq (.ops [.mk (some 64) none (.k (.mov (.tmp 6))), .mk (some 65) none (.k (.mov (.tmp 9))), .mk (some 66) none (.k (.idx 1 (.tmp 64) (.tmp 65))), .mk (some 67) none (.k (.load [.bool] false (.tmp 66))), .mk (some 68) none (.k (.mov (.tmp 4))), .mk (some 69) none (.k (.idx 1 (.tmp 68) (.const (.int .i64 0)))), .mk (some 70) none (.k (.load [.slc] false (.tmp 69))), .mk (some 71) none (.k (.mov (.tmp 9))), .mk (some 72) none (.k (.idx 1 (.tmp 70) (.tmp 71))), .mk (some 73) none (.k (.load [.bool] false (.tmp 72))), .mk (some 74) none (.k (.eqb true (.tmp 67) (.tmp 73))), .mk (some 75) none (.k (.mov (.tmp 74))), .mk (some 76) (some (75, false)) (.k (.mov (.tmp 6))), .mk (some 77) (some (75, false)) (.k (.mov (.tmp 9))), .mk (some 78) (some (75, false)) (.k (.idx 1 (.tmp 76) (.tmp 77))), .mk (some 79) (some (75, false)) (.k (.load [.bool] false (.tmp 78))), .mk (some 80) (some (75, false)) (.k (.mov (.tmp 4))), .mk (some 81) (some (75, false)) (.k (.mov (.tmp 9))), .mk (some 82) (some (75, false)) (.k (.idx 1 (.tmp 80) (.tmp 81))), .mk (some 83) (some (75, false)) (.k (.load [.slc] false (.tmp 82))), .mk (some 84) (some (75, false)) (.k (.mov (.tmp 9))), .mk (some 85) (some (75, false)) (.k (.idx 1 (.tmp 83) (.tmp 84))), .mk (some 86) (some (75, false)) (.k (.load [.bool] false (.tmp 85))), .mk (some 87) (some (75, false)) (.k (.eqb true (.tmp 79) (.tmp 86))), .mk (some 88) none (.k (.pick (.tmp 75) (.const (.bool true)) (.tmp 87)))]) (.cond (.tmp 88) (.ref 6) .skip)) (.ref 16))) (.ref 17)
def T8n19 : XC := .seq (.seq (.ops [.mk (some 58) none (.k (.mov (.tmp 9))), .mk (some 59) none (.k (.mov (.tmp 4))), .mk (some 60) none (.k (.lenS (.tmp 59))), .mk (some 61) none (.k (.cmp .lss .i64 (.tmp 58) (.tmp 60)))]) (.cond (.tmp 61) .skip (.exit 2))) (.ref 18)
def T8n20 : XC := .seq (.ops [.mk (some 151) none (.k (.mov (.tmp 3))), .mk (some 2) none (.k (.mov (.tmp 151)))]) .ret
def T8n21 : XC := .seq (.seq (.ops [.mk (some 9) none (.k (.mov (.const (.int .i64 0))))]) (.blk 2 (.loop (.ref 19)))) (.ref 20)
def T8n22 : XC := .seq (.seq (.ops [.mk (some 8) none (.k (.mov (.const (.int .i64 0))))]) (.blk 0 (.loop (.ref 5)))) (.ref 21)
def T8n23 : XC := .seq (.seq (.ops [.mk (some 31) none (.k (.mov (.tmp 5))), .mk (some 32) none (.k (.cmp .neq .i64 (.tmp 31) (.const (.int .i64 0)))), .mk (some 33) none (.k (.mov (.tmp 32))), .mk (some 34) (some (33, false)) (.k (.mov (.tmp 7))), .mk (some 35) (some (33, false)) (.k (.cmp .neq .i64 (.tmp 34) (.const (.int .i64 0)))), .mk (some 36) none (.k (.pick (.tmp 33) (.const (.bool true)) (.tmp 35))), .mk (some 37) none (.k (.mov (.tmp 36))), .mk (some 38) (some (37, false)) (.k (.mov (.tmp 4))), .mk (some 39) (some (37, false)) (.k (.lenS (.tmp 38))), .mk (some 40) (some (37, false)) (.k (.mov (.tmp 6))), .mk (some 41) (some (37, false)) (.k (.lenS (.tmp 40))), .mk (some 42) (some (37, false)) (.k (.cmp .neq .i64 (.tmp 39) (.tmp 41))), .mk (some 43) none (.k (.pick (.tmp 37) (.const (.bool true)) (.tmp 42)))]) (.cond (.tmp 43) (.ref 1) .skip)) (.ref 22)
def T8n24 : XC := .seq (.ops [.mk (some 27) none (.k (.mov (.tmp 0))), .mk (some 28) none (.call 18 [.tmp 27]), .mk (some 26) none (.k (.mov (.tmp 28))), .mk (some 29) none (.k (.ext (.tmp 26) 0)), .mk (some 30) none (.k (.ext (.tmp 26) 1)), .mk (some 6) none (.k (.mov (.tmp 29))), .mk (some 7) none (.k (.mov (.tmp 30)))]) (.ref 23)
def T8n25 : XC := .seq (.ops [.mk (some 22) none (.k (.mov (.tmp 0))), .mk (some 23) none (.call 19 [.tmp 22]), .mk (some 21) none (.k (.mov (.tmp 23))), .mk (some 24) none (.k (.ext (.tmp 21) 0)), .mk (some 25) none (.k (.ext (.tmp 21) 1)), .mk (some 4) none (.k (.mov (.tmp 24))), .mk (some 5) none (.k (.mov (.tmp 25)))]) (.ref 24)
def T8n26 : XC := .seq (.seq (.ops [.mk (some 13) none (.k (.mov (.tmp 0))), .mk (some 14) none (.k (.lenS (.tmp 13))), .mk (some 15) none (.k (.cmp .gtr .i64 (.tmp 14) (.const (.int .i64 80)))), .mk (some 16) none (.k (.mov (.tmp 15))), .mk (some 17) (some (16, false)) (.k (.mov (.tmp 3))), .mk (some 18) (some (16, false)) (.k (.not (.tmp 17))), .mk (some 19) none (.k (.pick (.tmp 16) (.const (.bool true)) (.tmp 18)))]) (.cond (.tmp 19) (.ref 0) .skip)) (.ref 25)
def T8n27 : XC := .seq (.ops [.mk (some 12) none (.call 16 []), .mk (some 3) none (.k (.mov (.tmp 12)))]) (.ref 26)
def T8 : Nat → XC
 | 0 => T8n0
 | 1 => T8n1
 | 2 => T8n2
 | 3 => T8n3
 | 4 => T8n4
 | 5 => T8n5
 | 6 => T8n6
 | 7 => T8n7
 | 8 => T8n8
 | 9 => T8n9
 | 10 => T8n10
 | 11 => T8n11
 | 12 => T8n12
 | 13 => T8n13
 | 14 => T8n14
 | 15 => T8n15
 | 16 => T8n16
 | 17 => T8n17
 | 18 => T8n18
 | 19 => T8n19
 | 20 => T8n20
 | 21 => T8n21
 | 22 => T8n22
 | 23 => T8n23
 | 24 => T8n24
 | 25 => T8n25
 | 26 => T8n26
 | 27 => T8n27
 | _ => .skip
theorem t8n0 : T8 0 = T8n0 := rfl
theorem t8n1 : T8 1 = T8n1 := rfl
theorem t8n2 : T8 2 = T8n2 := rfl
theorem t8n3 : T8 3 = T8n3 := rfl
theorem t8n4 : T8 4 = T8n4 := rfl
theorem t8n5 : T8 5 = T8n5 := rfl
theorem t8n6 : T8 6 = T8n6 := rfl
theorem t8n7 : T8 7 = T8n7 := rfl
theorem t8n8 : T8 8 = T8n8 := rfl
theorem t8n9 : T8 9 = T8n9 := rfl
theorem t8n10 : T8 10 = T8n10 := rfl
theorem t8n11 : T8 11 = T8n11 := rfl
theorem t8n12 : T8 12 = T8n12 := rfl
theorem t8n13 : T8 13 = T8n13 := rfl
theorem t8n14 : T8 14 = T8n14 := rfl
theorem t8n15 : T8 15 = T8n15 := rfl
theorem t8n16 : T8 16 = T8n16 := rfl
theorem t8n17 : T8 17 = T8n17 := rfl
theorem t8n18 : T8 18 = T8n18 := rfl
theorem t8n19 : T8 19 = T8n19 := rfl
theorem t8n20 : T8 20 = T8n20 := rfl
theorem t8n21 : T8 21 = T8n21 := rfl
theorem t8n22 : T8 22 = T8n22 := rfl
theorem t8n23 : T8 23 = T8n23 := rfl
theorem t8n24 : T8 24 = T8n24 := rfl
theorem t8n25 : T8 25 = T8n25 := rfl
theorem t8n26 : T8 26 = T8n26 := rfl
theorem t8n27 : T8 27 = T8n27 := rfl
def X8 : XC := .seq (.ops [.mk (some 2) none (.k (.mov (.const (.bool false))))]) (.ref 27)
abbrev K8 : List Nat := [0, 2, 3, 4, 5, 6, 7, 8, 9, 10, 11, 19, 43, 47, 57, 61, 88, 92, 108, 112, 150]
theorem n8 : Tryz.f8.ntmps = 152 := by kernel_rfl
theorem r8 : resT Tryz.f8.results.toList = some [2] := by kernel_rfl
theorem x8 : cmpF Tryz.prog Tryz.f8 = some (expand T8 29 X8) := by kernel_rfl
def T16n0 : XC := .seq (.ops [.mk (some 8) none (.k (.mov (.tmp 2))), .mk (some 9) none (.k (.cmp .eql .i64 (.tmp 8) (.const (.int .i64 0)))), .mk (some 10) none (.k (.mov (.tmp 9))), .mk (some 11) (some (10, true)) (.k (.mov (.tmp 1))), .mk (some 12) (some (10, true)) (.k (.lenS (.tmp 11))), .mk (some 13) (some (10, true)) (.k (.cmp .eql .i64 (.tmp 12) (.const (.int .i64 4)))), .mk (some 14) none (.k (.pick (.tmp 10) (.tmp 13) (.const (.bool false)))), .mk (some 15) none (.k (.mov (.tmp 14))), .mk (some 16) (some (15, true)) (.k (.mov (.tmp 1))), .mk (some 17) (some (15, true)) (.k (.idx 3 (.tmp 16) (.const (.int .i64 1)))), .mk (some 18) (some (15, true)) (.k (.fld 0 (.tmp 17))), .mk (some 19) (some (15, true)) (.k (.load [.int .i64] false (.tmp 18))), .mk (some 20) (some (15, true)) (.k (.cmp .eql .i64 (.tmp 19) (.const (.int .i64 1)))), .mk (some 21) none (.k (.pick (.tmp 15) (.tmp 20) (.const (.bool false)))), .mk (some 22) none (.k (.mov (.tmp 21))), .mk (some 23) (some (22, true)) (.k (.mov (.tmp 1))), .mk (some 24) (some (22, true)) (.k (.idx 3 (.tmp 23) (.const (.int .i64 1)))), .mk (some 25) (some (22, true)) (.k (.fld 1 (.tmp 24))), .mk (some 26) (some (22, true)) (.k (.load [.int .i64] false (.tmp 25))), .mk (some 27) (some (22, true)) (.k (.cmp .eql .i64 (.tmp 26) (.const (.int .i64 2)))), .mk (some 28) none (.k (.pick (.tmp 22) (.tmp 27) (.const (.bool false)))), .mk (some 29) none (.k (.mov (.tmp 28))), .mk (some 30) (some (29, true)) (.k (.mov (.tmp 1))), .mk (some 31) (some (29, true)) (.k (.idx 3 (.tmp 30) (.const (.int .i64 1)))), .mk (some 32) (some (29, true)) (.k (.fld 2 (.tmp 31))), .mk (some 33) (some (29, true)) (.k (.load [.slc] false (.tmp 32))), .mk (some 34) (some (29, true)) (.k (.lenS (.tmp 33))), .mk (some 35) (some (29, true)) (.k (.cmp .eql .i64 (.tmp 34) (.const (.int .i64 2)))), .mk (some 36) none (.k (.pick (.tmp 29) (.tmp 35) (.const (.bool false)))), .mk (some 37) none (.k (.mov (.tmp 36))), .mk (some 38) (some (37, true)) (.k (.mov (.tmp 1))), .mk (some 39) (some (37, true)) (.k (.idx 3 (.tmp 38) (.const (.int .i64 1)))), .mk (some 40) (some (37, true)) (.k (.fld 2 (.tmp 39))), .mk (some 41) (some (37, true)) (.k (.load [.slc] false (.tmp 40))), .mk (some 42) (some (37, true)) (.k (.idx 1 (.tmp 41) (.const (.int .i64 0)))), .mk (some 43) (some (37, true)) (.k (.load [.int .i64] false (.tmp 42))), .mk (some 44) (some (37, true)) (.k (.cmp .eql .i64 (.tmp 43) (.const (.int .i64 2)))), .mk (some 45) none (.k (.pick (.tmp 37) (.tmp 44) (.const (.bool false)))), .mk (some 46) none (.k (.mov (.tmp 45))), .mk (some 47) (some (46, true)) (.k (.mov (.tmp 1))), .mk (some 48) (some (46, true)) (.k (.idx 3 (.tmp 47) (.const (.int .i64 1)))), .mk (some 49) (some (46, true)) (.k (.fld 2 (.tmp 48))), .mk (some 50) (some (46, true)) (.k (.load [.slc] false (.tmp 49))), .mk (some 51) (some (46, true)) (.k (.idx 1 (.tmp 50) (.const (.int .i64 1)))), .mk (some 52) (some (46, true)) (.k (.load [.int .i64] false (.tmp 51))), .mk (some 53) (some (46, true)) (.k (.cmp .eql .i64 (.tmp 52) (.const (.int .i64 3)))), .mk (some 54) none (.k (.pick (.tmp 46) (.tmp 53) (.const (.bool false)))), .mk (some 55) none (.k (.mov (.tmp 54))), .mk (some 56) (some (55, true)) (.k (.mov (.tmp 1))), .mk (some 57) (some (55, true)) (.k (.idx 3 (.tmp 56) (.const (.int .i64 3)))), .mk (some 58) (some (55, true)) (.k (.fld 2 (.tmp 57))), .mk (some 59) (some (55, true)) (.k (.load [.slc] false (.tmp 58))), .mk (some 60) (some (55, true)) (.k (.lenS (.tmp 59))), .mk (some 61) (some (55, true)) (.k (.cmp .eql .i64 (.tmp 60) (.const (.int .i64 0)))), .mk (some 62) none (.k (.pick (.tmp 55) (.tmp 61) (.const (.bool false)))), .mk (some 0) none (.k (.mov (.tmp 62)))]) .ret
def T16n1 : XC := .seq (.ops [.mk (some 4) none (.call 32 []), .mk (some 5) none (.call 17 [.tmp 4]), .mk (some 3) none (.k (.mov (.tmp 5))), .mk (some 6) none (.k (.ext (.tmp 3) 0)), .mk (some 7) none (.k (.ext (.tmp 3) 1)), .mk (some 1) none (.k (.mov (.tmp 6))), .mk (some 2) none (.k (.mov (.tmp 7)))]) (.ref 0)
def T16 : Nat → XC
 | 0 => T16n0
 | 1 => T16n1
 | _ => .skip
theorem t16n0 : T16 0 = T16n0 := rfl
theorem t16n1 : T16 1 = T16n1 := rfl
def X16 : XC := .seq (.ops [.mk (some 0) none (.k (.mov (.const (.bool false))))]) (.ref 1)
abbrev K16 : List Nat := [0, 1, 2]
theorem n16 : Tryz.f16.ntmps = 63 := by kernel_rfl
theorem r16 : resT Tryz.f16.results.toList = some [0] := by kernel_rfl
theorem x16 : cmpF Tryz.prog Tryz.f16 = some (expand T16 3 X16) := by kernel_rfl
def T32n0 : XC := .seq (.ops [.mk (some 9) none (.k (.mov (.tmp 1))), .mk (some 0) none (.k (.mov (.tmp 9)))]) .ret
def T32n1 : XC := .seq (.ops [.mk (some 5) none (.call 66 [.const (.string (ByteArray.mk (Array.mk [UInt8.ofNat 115, UInt8.ofNat 101, UInt8.ofNat 116, UInt8.ofNat 32, UInt8.ofNat 49, UInt8.ofNat 32, UInt8.ofNat 48, UInt8.ofNat 10, UInt8.ofNat 101, UInt8.ofNat 113, UInt8.ofNat 32, UInt8.ofNat 49, UInt8.ofNat 32, UInt8.ofNat 50, UInt8.ofNat 32, UInt8.ofNat 52, UInt8.ofNat 10, UInt8.ofNat 115, UInt8.ofNat 101, UInt8.ofNat 116, UInt8.ofNat 32, UInt8.ofNat 49, UInt8.ofNat 32, UInt8.ofNat 49, UInt8.ofNat 10, UInt8.ofNat 106, UInt8.ofNat 117, UInt8.ofNat 109, UInt8.ofNat 112, UInt8.ofNat 32, UInt8.ofNat 49, UInt8.ofNat 10, UInt8.ofNat 104, UInt8.ofNat 97, UInt8.ofNat 108, UInt8.ofNat 116])))]), .mk (some 4) none (.k (.mov (.tmp 5))), .mk (some 6) none (.k (.ext (.tmp 4) 0)), .mk (some 7) none (.k (.ext (.tmp 4) 1)), .mk (some 8) none (.k (.ext (.tmp 4) 2)), .mk (some 1) none (.k (.mov (.tmp 6))), .mk (some 2) none (.k (.mov (.tmp 7))), .mk (some 3) none (.k (.mov (.tmp 8)))]) (.ref 0)
def T32 : Nat → XC
 | 0 => T32n0
 | 1 => T32n1
 | _ => .skip
theorem t32n0 : T32 0 = T32n0 := rfl
theorem t32n1 : T32 1 = T32n1 := rfl
def X32 : XC := .seq (.ops [.mk (some 0) none (.k (.mov (.const (.slice none 0 0))))]) (.ref 1)
abbrev K32 : List Nat := [0, 1]
theorem n32 : Tryz.f32.ntmps = 10 := by kernel_rfl
theorem r32 : resT Tryz.f32.results.toList = some [0] := by kernel_rfl
theorem x32 : cmpF Tryz.prog Tryz.f32 = some (expand T32 3 X32) := by kernel_rfl
def T19n0 : XC := .seq (.ops [.mk (some 2) none (.k (.mov (.const (.slice none 0 0)))), .mk (some 3) none (.k (.mov (.const (.int .i64 2))))]) .ret
def T19n1 : XC := .seq (.ops [.mk (some 7) none (.k (.mov (.tmp 0))), .mk (some 8) none (.call 33 [.tmp 7]), .mk (some 9) none (.call 35 [.tmp 8]), .mk (some 2) none (.k (.mov (.tmp 9))), .mk (some 3) none (.k (.mov (.const (.int .i64 0))))]) .ret
def T19n2 : XC := .seq (.seq (.ops [.mk (some 4) none (.k (.mov (.tmp 0))), .mk (some 5) none (.k (.lenS (.tmp 4))), .mk (some 6) none (.k (.cmp .gtr .i64 (.tmp 5) (.const (.int .i64 1024))))]) (.cond (.tmp 6) (.ref 0) .skip)) (.ref 1)
def T19 : Nat → XC
 | 0 => T19n0
 | 1 => T19n1
 | 2 => T19n2
 | _ => .skip
theorem t19n0 : T19 0 = T19n0 := rfl
theorem t19n1 : T19 1 = T19n1 := rfl
theorem t19n2 : T19 2 = T19n2 := rfl
def X19 : XC := .seq (.ops [.mk (some 2) none (.k (.mov (.const (.slice none 0 0)))), .mk (some 3) none (.k (.mov (.const (.int .i64 0))))]) (.ref 2)
abbrev K19 : List Nat := [0, 2, 3, 6]
theorem n19 : Tryz.f19.ntmps = 10 := by kernel_rfl
theorem r19 : resT Tryz.f19.results.toList = some [2, 3] := by kernel_rfl
theorem x19 : cmpF Tryz.prog Tryz.f19 = some (expand T19 4 X19) := by kernel_rfl
def T35n0 : XC := .ops [.mk (some 23) none (.k (.mov (.tmp 6))), .mk (some 24) none (.k (.mov (.tmp 7))), .mk (some 25) none (.k (.mov (.tmp 3))), .mk (some 26) none (.k (.mov (.tmp 7))), .mk (some 27) none (.k (.idx 1 (.tmp 25) (.tmp 26))), .mk (some 28) none (.k (.load [.bool] false (.tmp 27))), .mk (some 29) none (.k (.mov (.tmp 28))), .mk (some 30) (some (29, true)) (.k (.mov (.tmp 6))), .mk (some 31) (some (29, true)) (.k (.mov (.tmp 7))), .mk (some 32) (some (29, true)) (.k (.idx 1 (.tmp 30) (.tmp 31))), .mk (some 33) (some (29, true)) (.k (.load [.bool] false (.tmp 32))), .mk (some 34) (some (29, true)) (.k (.not (.tmp 33))), .mk (some 35) none (.k (.pick (.tmp 29) (.tmp 34) (.const (.bool false)))), .mk (some 36) none (.k (.idx 1 (.tmp 23) (.tmp 24))), .mk none none (.k (.store 1 (.tmp 36) (.tmp 35)))]
def T35n1 : XC := .seq (.blk 3 (.seq (.ops [.mk (some 22) none (.k (.mov (.tmp 20))), .mk (some 7) none (.k (.mov (.tmp 22)))]) (.ref 0))) (.ops [.mk (some 37) none (.k (.arith .add .i64 (.tmp 20) (.const (.int .i64 1)))), .mk (some 20) none (.k (.mov (.tmp 37)))])
def T35n2 : XC := .seq (.cond (.tmp 21) .skip (.exit 2)) (.ref 1)
def T35n3 : XC := .seq (.ops [.mk (some 21) none (.k (.cmp .lss .i64 (.tmp 20) (.tmp 19)))]) (.ref 2)
def T35n4 : XC := .ops [.mk (some 38) none (.k (.mov (.tmp 4))), .mk (some 39) none (.k (.mov (.tmp 6))), .mk (some 40) none (.k (.buildS 30 1 1 [.slice none 0 0] [(0, .tmp 39)])), .mk (some 41) none (.k (.app 30 1 24 (.tmp 38) (.tmp 40))), .mk (some 4) none (.k (.mov (.tmp 41)))]
def T35n5 : XC := .seq (.seq (.ops [.mk (some 18) none (.k (.mov (.tmp 6))), .mk (some 19) none (.k (.lenS (.tmp 18))), .mk (some 20) none (.k (.mov (.const (.int .i64 0))))]) (.blk 2 (.loop (.ref 3)))) (.ref 4)
def T35n6 : XC := .seq (.ops [.mk (some 15) none (.k (.mov (.tmp 0))), .mk (some 16) none (.k (.mov (.tmp 5))), .mk (some 17) none (.call 34 [.tmp 15, .tmp 16]), .mk (some 6) none (.k (.mov (.tmp 17)))]) (.ref 5)
def T35n7 : XC := .seq (.blk 1 (.seq (.ops [.mk (some 14) none (.k (.mov (.tmp 12))), .mk (some 5) none (.k (.mov (.tmp 14)))]) (.ref 6))) (.ops [.mk (some 42) none (.k (.arith .add .i64 (.tmp 12) (.const (.int .i64 1)))), .mk (some 12) none (.k (.mov (.tmp 42)))])
def T35n8 : XC := .seq (.cond (.tmp 13) .skip (.exit 0)) (.ref 7)
def T35n9 : XC := .seq (.ops [.mk (some 13) none (.k (.cmp .lss .i64 (.tmp 12) (.tmp 11)))]) (.ref 8)
def T35n10 : XC := .seq (.ops [.mk (some 43) none (.k (.mov (.tmp 4))), .mk (some 2) none (.k (.mov (.tmp 43)))]) .ret
def T35n11 : XC := .seq (.seq (.ops [.mk (some 10) none (.k (.mov (.tmp 0))), .mk (some 11) none (.k (.lenS (.tmp 10))), .mk (some 12) none (.k (.mov (.const (.int .i64 0))))]) (.blk 0 (.loop (.ref 9)))) (.ref 10)
def T35n12 : XC := .seq (.ops [.mk (some 4) none (.k (.mov (.const (.slice none 0 0))))]) (.ref 11)
def T35n13 : XC := .seq (.ops [.mk (some 8) none (.k (.mov (.tmp 0))), .mk (some 9) none (.call 34 [.tmp 8, .const (.int .i64 (-1))]), .mk (some 3) none (.k (.mov (.tmp 9)))]) (.ref 12)
def T35 : Nat → XC
 | 0 => T35n0
 | 1 => T35n1
 | 2 => T35n2
 | 3 => T35n3
 | 4 => T35n4
 | 5 => T35n5
 | 6 => T35n6
 | 7 => T35n7
 | 8 => T35n8
 | 9 => T35n9
 | 10 => T35n10
 | 11 => T35n11
 | 12 => T35n12
 | 13 => T35n13
 | _ => .skip
theorem t35n0 : T35 0 = T35n0 := rfl
theorem t35n1 : T35 1 = T35n1 := rfl
theorem t35n2 : T35 2 = T35n2 := rfl
theorem t35n3 : T35 3 = T35n3 := rfl
theorem t35n4 : T35 4 = T35n4 := rfl
theorem t35n5 : T35 5 = T35n5 := rfl
theorem t35n6 : T35 6 = T35n6 := rfl
theorem t35n7 : T35 7 = T35n7 := rfl
theorem t35n8 : T35 8 = T35n8 := rfl
theorem t35n9 : T35 9 = T35n9 := rfl
theorem t35n10 : T35 10 = T35n10 := rfl
theorem t35n11 : T35 11 = T35n11 := rfl
theorem t35n12 : T35 12 = T35n12 := rfl
theorem t35n13 : T35 13 = T35n13 := rfl
def X35 : XC := .seq (.ops [.mk (some 2) none (.k (.mov (.const (.slice none 0 0))))]) (.ref 13)
abbrev K35 : List Nat := [0, 2, 3, 4, 5, 6, 7, 11, 12, 13, 19, 20, 21]
theorem n35 : Tryz.f35.ntmps = 44 := by kernel_rfl
theorem r35 : resT Tryz.f35.results.toList = some [2] := by kernel_rfl
theorem x35 : cmpF Tryz.prog Tryz.f35 = some (expand T35 15 X35) := by kernel_rfl
end Go.Proofs.YtlbiogokpadaoaaGreatDoor
