/- Printed by program: the small code of functions, and that it is theirs. -/
import Derived.Test.YtlbiogokpadaoaaGreatDoorSxStill
import Derived.Test.YtlbiogokpadaoaaGreatDoorProg
import Derived.KernelRfl
set_option linter.unusedSimpArgs false
set_option linter.unusedVariables false
set_option linter.unnecessarySimpa false
namespace Go.Proofs.YtlbiogokpadaoaaGreatDoor
open Go Go.Sx
set_option maxRecDepth 100000
def T7n0 : XC := .seq (.ops [.mk (some 22) none (.k (.mov (.tmp 3))), .mk (some 2) none (.k (.mov (.tmp 22)))]) .ret
def T7n1 : XC := .seq (.ops [.mk (some 2) none (.k (.mov (.const (.bool false))))]) .ret
def T7n2 : XC := .seq (.ops [.mk (some 2) none (.k (.mov (.const (.bool false))))]) .ret
def T7n3 : XC := .seq (.ops [.mk (some 2) none (.k (.mov (.const (.bool false))))]) .ret
def T7n4 : XC := .ops [.mk (some 115) none (.k (.mov (.tmp 9))), .mk (some 116) none (.k (.mov (.tmp 12))), .mk (some 117) none (.k (.mov (.tmp 9))), .mk (some 118) none (.k (.mov (.tmp 12))), .mk (some 119) none (.k (.idx 1 (.tmp 117) (.tmp 118))), .mk (some 120) none (.k (.load [.bool] false (.tmp 119))), .mk (some 121) none (.k (.mov (.tmp 120))), .mk (some 122) (some (121, false)) (.k (.mov (.tmp 6))), .mk (some 123) (some (121, false)) (.k (.mov (.tmp 10))), .mk (some 124) (some (121, false)) (.k (.idx 1 (.tmp 122) (.tmp 123))), .mk (some 125) (some (121, false)) (.k (.load [.bool] false (.tmp 124))), .mk (some 126) none (.k (.pick (.tmp 121) (.const (.bool true)) (.tmp 125))), .mk (some 127) none (.k (.idx 1 (.tmp 115) (.tmp 116))), .mk none none (.k (.store 1 (.tmp 127) (.tmp 126)))]
def T7n5 : XC := .seq (.seq (.ops [.mk (some 94) none (.k (.mov (.tmp 12))), .mk (some 95) none (.k (.cmp .lss .i64 (.tmp 94) (.const (.int .i64 0)))), .mk (some 96) none (.k (.mov (.tmp 95))), .mk (some 97) (some (96, false)) (.k (.mov (.tmp 12))), .mk (some 98) (some (96, false)) (.k (.mov (.tmp 4))), .mk (some 99) (some (96, false)) (.k (.lenS (.tmp 98))), .mk (some 100) (some (96, false)) (.k (.cmp .geq .i64 (.tmp 97) (.tmp 99))), .mk (some 101) none (.k (.pick (.tmp 96) (.const (.bool true)) (.tmp 100))), .mk (some 102) none (.k (.mov (.tmp 101))), .mk (some 103) (some (102, false)) (.k (.mov (.tmp 6))), .mk (some 104) (some (102, false)) (.k (.mov (.tmp 10))), .mk (some 105) (some (102, false)) (.k (.idx 1 (.tmp 103) (.tmp 104))), .mk (some 106) (some (102, false)) (.k (.load [.bool] false (.tmp 105))), .mk (some 107) (some (102, false)) (.k (.mov (.tmp 106))), .mk (some 108) (some (107, true)) (.k (.mov (.tmp 6))), .mk (some 109) (some (107, true)) (.k (.mov (.tmp 12))), .mk (some 110) (some (107, true)) (.k (.idx 1 (.tmp 108) (.tmp 109))), .mk (some 111) (some (107, true)) (.k (.load [.bool] false (.tmp 110))), .mk (some 112) (some (107, true)) (.k (.not (.tmp 111))), .mk (some 113) (some (102, false)) (.k (.pick (.tmp 107) (.tmp 112) (.const (.bool false)))), .mk (some 114) none (.k (.pick (.tmp 102) (.const (.bool true)) (.tmp 113)))]) (.cond (.tmp 114) (.ref 3) .skip)) (.ref 4)
def T7n6 : XC := .ops [.mk (some 84) none (.k (.mov (.tmp 11))), .mk (some 85) none (.k (.arith .add .i64 (.tmp 84) (.const (.int .i64 1)))), .mk (some 11) none (.k (.mov (.tmp 85)))]
def T7n7 : XC := .seq (.blk 3 (.seq (.ops [.mk (some 86) none (.k (.mov (.tmp 4))), .mk (some 87) none (.k (.mov (.tmp 10))), .mk (some 88) none (.k (.idx 3 (.tmp 86) (.tmp 87))), .mk (some 89) none (.k (.fld 2 (.tmp 88))), .mk (some 90) none (.k (.load [.slc] false (.tmp 89))), .mk (some 91) none (.k (.mov (.tmp 11))), .mk (some 92) none (.k (.idx 1 (.tmp 90) (.tmp 91))), .mk (some 93) none (.k (.load [.int .i64] false (.tmp 92))), .mk (some 12) none (.k (.mov (.tmp 93)))]) (.ref 5))) (.ref 6)
def T7n8 : XC := .seq (.seq (.ops [.mk (some 76) none (.k (.mov (.tmp 11))), .mk (some 77) none (.k (.mov (.tmp 4))), .mk (some 78) none (.k (.mov (.tmp 10))), .mk (some 79) none (.k (.idx 3 (.tmp 77) (.tmp 78))), .mk (some 80) none (.k (.fld 2 (.tmp 79))), .mk (some 81) none (.k (.load [.slc] false (.tmp 80))), .mk (some 82) none (.k (.lenS (.tmp 81))), .mk (some 83) none (.k (.cmp .lss .i64 (.tmp 76) (.tmp 82)))]) (.cond (.tmp 83) .skip (.exit 2))) (.ref 7)
def T7n9 : XC := .seq (.ops [.mk (some 11) none (.k (.mov (.const (.int .i64 0))))]) (.blk 2 (.loop (.ref 8)))
def T7n10 : XC := .seq (.ops [.mk (some 71) none (.k (.mov (.tmp 4))), .mk (some 72) none (.k (.mov (.tmp 10))), .mk (some 73) none (.k (.idx 3 (.tmp 71) (.tmp 72))), .mk (some 74) none (.k (.fld 1 (.tmp 73))), .mk (some 75) none (.k (.load [.int .i64] false (.tmp 74))), .mk (some 8) none (.k (.mov (.tmp 75)))]) (.ref 9)
def T7n11 : XC := .ops [.mk (some 53) none (.k (.mov (.tmp 10))), .mk (some 54) none (.k (.arith .add .i64 (.tmp 53) (.const (.int .i64 1)))), .mk (some 10) none (.k (.mov (.tmp 54)))]
def T7n12 : XC := .seq (.blk 1 (.seq (.seq (.ops [.mk (some 55) none (.k (.mov (.tmp 4))), .mk (some 56) none (.k (.mov (.tmp 10))), .mk (some 57) none (.k (.idx 3 (.tmp 55) (.tmp 56))), .mk (some 58) none (.k (.fld 0 (.tmp 57))), .mk (some 59) none (.k (.load [.int .i64] false (.tmp 58))), .mk (some 60) none (.k (.mov (.tmp 8))), .mk (some 61) none (.k (.cmp .neq .i64 (.tmp 59) (.tmp 60))), .mk (some 62) none (.k (.mov (.tmp 61))), .mk (some 63) (some (62, false)) (.k (.mov (.tmp 4))), .mk (some 64) (some (62, false)) (.k (.mov (.tmp 10))), .mk (some 65) (some (62, false)) (.k (.idx 3 (.tmp 63) (.tmp 64))), .mk (some 66) (some (62, false)) (.k (.fld 1 (.tmp 65))), .mk (some 67) (some (62, false)) (.k (.load [.int .i64] false (.tmp 66))), .mk (some 68) (some (62, false)) (.k (.mov (.tmp 8))), .mk (some 69) (some (62, false)) (.k (.cmp .leq .i64 (.tmp 67) (.tmp 68))), .mk (some 70) none (.k (.pick (.tmp 62) (.const (.bool true)) (.tmp 69)))]) (.cond (.tmp 70) (.ref 2) .skip)) (.ref 10))) (.ref 11)
def T7n13 : XC := .seq (.seq (.ops [.mk (some 49) none (.k (.mov (.tmp 10))), .mk (some 50) none (.k (.mov (.tmp 4))), .mk (some 51) none (.k (.lenS (.tmp 50))), .mk (some 52) none (.k (.cmp .lss .i64 (.tmp 49) (.tmp 51)))]) (.cond (.tmp 52) .skip (.exit 0))) (.ref 12)
def T7n14 : XC := .seq (.ops [.mk (some 2) none (.k (.mov (.const (.bool false))))]) .ret
def T7n15 : XC := .ops [.mk (some 132) none (.k (.mov (.tmp 13))), .mk (some 133) none (.k (.arith .add .i64 (.tmp 132) (.const (.int .i64 1)))), .mk (some 13) none (.k (.mov (.tmp 133)))]
def T7n16 : XC := .seq (.blk 5 (.seq (.ops [.mk (some 134) none (.k (.mov (.tmp 6))), .mk (some 135) none (.k (.mov (.tmp 13))), .mk (some 136) none (.k (.idx 1 (.tmp 134) (.tmp 135))), .mk (some 137) none (.k (.load [.bool] false (.tmp 136))), .mk (some 138) none (.k (.mov (.tmp 13))), .mk (some 139) none (.k (.cmp .eql .i64 (.tmp 138) (.const (.int .i64 0)))), .mk (some 140) none (.k (.mov (.tmp 139))), .mk (some 141) (some (140, false)) (.k (.mov (.tmp 9))), .mk (some 142) (some (140, false)) (.k (.mov (.tmp 13))), .mk (some 143) (some (140, false)) (.k (.idx 1 (.tmp 141) (.tmp 142))), .mk (some 144) (some (140, false)) (.k (.load [.bool] false (.tmp 143))), .mk (some 145) none (.k (.pick (.tmp 140) (.const (.bool true)) (.tmp 144))), .mk (some 146) none (.k (.eqb true (.tmp 137) (.tmp 145)))]) (.cond (.tmp 146) (.ref 14) .skip))) (.ref 15)
def T7n17 : XC := .seq (.seq (.ops [.mk (some 128) none (.k (.mov (.tmp 13))), .mk (some 129) none (.k (.mov (.tmp 4))), .mk (some 130) none (.k (.lenS (.tmp 129))), .mk (some 131) none (.k (.cmp .lss .i64 (.tmp 128) (.tmp 130)))]) (.cond (.tmp 131) .skip (.exit 4))) (.ref 16)
def T7n18 : XC := .seq (.ops [.mk (some 147) none (.k (.mov (.tmp 3))), .mk (some 148) none (.k (.mov (.tmp 147))), .mk (some 149) (some (148, true)) (.k (.mov (.tmp 8))), .mk (some 150) (some (148, true)) (.k (.mov (.tmp 0))), .mk (some 151) (some (148, true)) (.k (.lenS (.tmp 150))), .mk (some 152) (some (148, true)) (.k (.cmp .eql .i64 (.tmp 149) (.tmp 151))), .mk (some 153) none (.k (.pick (.tmp 148) (.tmp 152) (.const (.bool false)))), .mk (some 2) none (.k (.mov (.tmp 153)))]) .ret
def T7n19 : XC := .seq (.seq (.ops [.mk (some 13) none (.k (.mov (.const (.int .i64 0))))]) (.blk 4 (.loop (.ref 17)))) (.ref 18)
def T7n20 : XC := .seq (.seq (.ops [.mk (some 10) none (.k (.mov (.const (.int .i64 0))))]) (.blk 0 (.loop (.ref 13)))) (.ref 19)
def T7n21 : XC := .seq (.ops [.mk (some 46) none (.k (.mov (.tmp 4))), .mk (some 47) none (.k (.lenS (.tmp 46))), .mk (some 48) none (.k (.mkslc 4 1 1 [.bool false] (.tmp 47) (.tmp 47))), .mk (some 9) none (.k (.mov (.tmp 48)))]) (.ref 20)
def T7n22 : XC := .seq (.ops [.mk (some 8) none (.k (.mov (.const (.int .i64 0))))]) (.ref 21)
def T7n23 : XC := .seq (.seq (.ops [.mk (some 33) none (.k (.mov (.tmp 5))), .mk (some 34) none (.k (.cmp .neq .i64 (.tmp 33) (.const (.int .i64 0)))), .mk (some 35) none (.k (.mov (.tmp 34))), .mk (some 36) (some (35, false)) (.k (.mov (.tmp 7))), .mk (some 37) (some (35, false)) (.k (.cmp .neq .i64 (.tmp 36) (.const (.int .i64 0)))), .mk (some 38) none (.k (.pick (.tmp 35) (.const (.bool true)) (.tmp 37))), .mk (some 39) none (.k (.mov (.tmp 38))), .mk (some 40) (some (39, false)) (.k (.mov (.tmp 4))), .mk (some 41) (some (39, false)) (.k (.lenS (.tmp 40))), .mk (some 42) (some (39, false)) (.k (.mov (.tmp 6))), .mk (some 43) (some (39, false)) (.k (.lenS (.tmp 42))), .mk (some 44) (some (39, false)) (.k (.cmp .neq .i64 (.tmp 41) (.tmp 43))), .mk (some 45) none (.k (.pick (.tmp 39) (.const (.bool true)) (.tmp 44)))]) (.cond (.tmp 45) (.ref 1) .skip)) (.ref 22)
def T7n24 : XC := .seq (.ops [.mk (some 29) none (.k (.mov (.tmp 0))), .mk (some 30) none (.call 18 [.tmp 29]), .mk (some 28) none (.k (.mov (.tmp 30))), .mk (some 31) none (.k (.ext (.tmp 28) 0)), .mk (some 32) none (.k (.ext (.tmp 28) 1)), .mk (some 6) none (.k (.mov (.tmp 31))), .mk (some 7) none (.k (.mov (.tmp 32)))]) (.ref 23)
def T7n25 : XC := .seq (.ops [.mk (some 24) none (.k (.mov (.tmp 0))), .mk (some 25) none (.call 17 [.tmp 24]), .mk (some 23) none (.k (.mov (.tmp 25))), .mk (some 26) none (.k (.ext (.tmp 23) 0)), .mk (some 27) none (.k (.ext (.tmp 23) 1)), .mk (some 4) none (.k (.mov (.tmp 26))), .mk (some 5) none (.k (.mov (.tmp 27)))]) (.ref 24)
def T7n26 : XC := .seq (.seq (.ops [.mk (some 15) none (.k (.mov (.tmp 0))), .mk (some 16) none (.k (.lenS (.tmp 15))), .mk (some 17) none (.k (.cmp .gtr .i64 (.tmp 16) (.const (.int .i64 200)))), .mk (some 18) none (.k (.mov (.tmp 17))), .mk (some 19) (some (18, false)) (.k (.mov (.tmp 3))), .mk (some 20) (some (18, false)) (.k (.not (.tmp 19))), .mk (some 21) none (.k (.pick (.tmp 18) (.const (.bool true)) (.tmp 20)))]) (.cond (.tmp 21) (.ref 0) .skip)) (.ref 25)
def T7n27 : XC := .seq (.ops [.mk (some 14) none (.call 16 []), .mk (some 3) none (.k (.mov (.tmp 14)))]) (.ref 26)
def T7 : Nat → XC
 | 0 => T7n0
 | 1 => T7n1
 | 2 => T7n2
 | 3 => T7n3
 | 4 => T7n4
 | 5 => T7n5
 | 6 => T7n6
 | 7 => T7n7
 | 8 => T7n8
 | 9 => T7n9
 | 10 => T7n10
 | 11 => T7n11
 | 12 => T7n12
 | 13 => T7n13
 | 14 => T7n14
 | 15 => T7n15
 | 16 => T7n16
 | 17 => T7n17
 | 18 => T7n18
 | 19 => T7n19
 | 20 => T7n20
 | 21 => T7n21
 | 22 => T7n22
 | 23 => T7n23
 | 24 => T7n24
 | 25 => T7n25
 | 26 => T7n26
 | 27 => T7n27
 | _ => .skip
theorem t7n0 : T7 0 = T7n0 := rfl
theorem t7n1 : T7 1 = T7n1 := rfl
theorem t7n2 : T7 2 = T7n2 := rfl
theorem t7n3 : T7 3 = T7n3 := rfl
theorem t7n4 : T7 4 = T7n4 := rfl
theorem t7n5 : T7 5 = T7n5 := rfl
theorem t7n6 : T7 6 = T7n6 := rfl
theorem t7n7 : T7 7 = T7n7 := rfl
theorem t7n8 : T7 8 = T7n8 := rfl
theorem t7n9 : T7 9 = T7n9 := rfl
theorem t7n10 : T7 10 = T7n10 := rfl
theorem t7n11 : T7 11 = T7n11 := rfl
theorem t7n12 : T7 12 = T7n12 := rfl
theorem t7n13 : T7 13 = T7n13 := rfl
theorem t7n14 : T7 14 = T7n14 := rfl
theorem t7n15 : T7 15 = T7n15 := rfl
theorem t7n16 : T7 16 = T7n16 := rfl
theorem t7n17 : T7 17 = T7n17 := rfl
theorem t7n18 : T7 18 = T7n18 := rfl
theorem t7n19 : T7 19 = T7n19 := rfl
theorem t7n20 : T7 20 = T7n20 := rfl
theorem t7n21 : T7 21 = T7n21 := rfl
theorem t7n22 : T7 22 = T7n22 := rfl
theorem t7n23 : T7 23 = T7n23 := rfl
theorem t7n24 : T7 24 = T7n24 := rfl
theorem t7n25 : T7 25 = T7n25 := rfl
theorem t7n26 : T7 26 = T7n26 := rfl
theorem t7n27 : T7 27 = T7n27 := rfl
def X7 : XC := .seq (.ops [.mk (some 2) none (.k (.mov (.const (.bool false))))]) (.ref 27)
abbrev K7 : List Nat := [0, 2, 3, 4, 5, 6, 7, 8, 9, 10, 11, 12, 13, 21, 45, 52, 70, 83, 114, 131, 146]
theorem n7 : Tryz.f7.ntmps = 154 := by kernel_rfl
theorem r7 : resT Tryz.f7.results.toList = some [2] := by kernel_rfl
theorem x7 : cmpF Tryz.prog Tryz.f7 = some (expand T7 29 X7) := by kernel_rfl
def T16n0 : XC := .seq (.ops [.mk (some 8) none (.k (.mov (.tmp 2))), .mk (some 9) none (.k (.cmp .eql .i64 (.tmp 8) (.const (.int .i64 0)))), .mk (some 10) none (.k (.mov (.tmp 9))), .mk (some 11) (some (10, true)) (.k (.mov (.tmp 1))), .mk (some 12) (some (10, true)) (.k (.lenS (.tmp 11))), .mk (some 13) (some (10, true)) (.k (.cmp .eql .i64 (.tmp 12) (.const (.int .i64 4)))), .mk (some 14) none (.k (.pick (.tmp 10) (.tmp 13) (.const (.bool false)))), .mk (some 15) none (.k (.mov (.tmp 14))), .mk (some 16) (some (15, true)) (.k (.mov (.tmp 1))), .mk (some 17) (some (15, true)) (.k (.idx 3 (.tmp 16) (.const (.int .i64 1)))), .mk (some 18) (some (15, true)) (.k (.fld 0 (.tmp 17))), .mk (some 19) (some (15, true)) (.k (.load [.int .i64] false (.tmp 18))), .mk (some 20) (some (15, true)) (.k (.cmp .eql .i64 (.tmp 19) (.const (.int .i64 1)))), .mk (some 21) none (.k (.pick (.tmp 15) (.tmp 20) (.const (.bool false)))), .mk (some 22) none (.k (.mov (.tmp 21))), .mk (some 23) (some (22, true)) (.k (.mov (.tmp 1))), .mk (some 24) (some (22, true)) (.k (.idx 3 (.tmp 23) (.const (.int .i64 1)))), .mk (some 25) (some (22, true)) (.k (.fld 1 (.tmp 24))), .mk (some 26) (some (22, true)) (.k (.load [.int .i64] false (.tmp 25))), .mk (some 27) (some (22, true)) (.k (.cmp .eql .i64 (.tmp 26) (.const (.int .i64 2)))), .mk (some 28) none (.k (.pick (.tmp 22) (.tmp 27) (.const (.bool false)))), .mk (some 29) none (.k (.mov (.tmp 28))), .mk (some 30) (some (29, true)) (.k (.mov (.tmp 1))), .mk (some 31) (some (29, true)) (.k (.idx 3 (.tmp 30) (.const (.int .i64 1)))), .mk (some 32) (some (29, true)) (.k (.fld 2 (.tmp 31))), .mk (some 33) (some (29, true)) (.k (.load [.slc] false (.tmp 32))), .mk (some 34) (some (29, true)) (.k (.lenS (.tmp 33))), .mk (some 35) (some (29, true)) (.k (.cmp .eql .i64 (.tmp 34) (.const (.int .i64 2)))), .mk (some 36) none (.k (.pick (.tmp 29) (.tmp 35) (.const (.bool false)))), .mk (some 37) none (.k (.mov (.tmp 36))), .mk (some 38) (some (37, true)) (.k (.mov (.tmp 1))), .mk (some 39) (some (37, true)) (.k (.idx 3 (.tmp 38) (.const (.int .i64 1)))), .mk (some 40) (some (37, true)) (.k (.fld 2 (.tmp 39))), .mk (some 41) (some (37, true)) (.k (.load [.slc] false (.tmp 40))), .mk (some 42) (some (37, true)) (.k (.idx 1 (.tmp 41) (.const (.int .i64 0)))), .mk (some 43) (some (37, true)) (.k (.load [.int .i64] false (.tmp 42))), .mk (some 44) (some (37, true)) (.k (.cmp .eql .i64 (.tmp 43) (.const (.int .i64 2)))), .mk (some 45) none (.k (.pick (.tmp 37) (.tmp 44) (.const (.bool false)))), .mk (some 46) none (.k (.mov (.tmp 45))), .mk (some 47) (some (46, true)) (.k (.mov (.tmp 1))), .mk (some 48) (some (46, true)) (.k (.idx 3 (.tmp 47) (.const (.int .i64 1)))), .mk (some 49) (some (46, true)) (.k (.fld 2 (.tmp 48))), .mk (some 50) (some (46, true)) (.k (.load [.slc] false (.tmp 49))), .mk (some 51) (some (46, true)) (.k (.idx 1 (.tmp 50) (.const (.int .i64 1)))), .mk (some 52) (some (46, true)) (.k (.load [.int .i64] false (.tmp 51))), .mk (some 53) (some (46, true)) (.k (.cmp .eql .i64 (.tmp 52) (.const (.int .i64 3)))), .mk (some 54) none (.k (.pick (.tmp 46) (.tmp 53) (.const (.bool false)))), .mk (some 55) none (.k (.mov (.tmp 54))), .mk (some 56) (some (55, true)) (.k (.mov (.tmp 1))), .mk (some 57) (some (55, true)) (.k (.idx 3 (.tmp 56) (.const (.int .i64 3)))), .mk (some 58) (some (55, true)) (.k (.fld 2 (.tmp 57))), .mk (some 59) (some (55, true)) (.k (.load [.slc] false (.tmp 58))), .mk (some 60) (some (55, true)) (.k (.lenS (.tmp 59))), .mk (some 61) (some (55, true)) (.k (.cmp .eql .i64 (.tmp 60) (.const (.int .i64 0)))), .mk (some 62) none (.k (.pick (.tmp 55) (.tmp 61) (.const (.bool false)))), .mk (some 0) none (.k (.mov (.tmp 62)))]) .ret
def T16n1 : XC := .seq (.ops [.mk (some 4) none (.call 32 []), .mk (some 5) none (.call 17 [.tmp 4]), .mk (some 3) none (.k (.mov (.tmp 5))), .mk (some 6) none (.k (.ext (.tmp 3) 0)), .mk (some 7) none (.k (.ext (.tmp 3) 1)), .mk (some 1) none (.k (.mov (.tmp 6))), .mk (some 2) none (.k (.mov (.tmp 7)))]) (.ref 0)
def T16 : Nat → XC
 | 0 => T16n0
 | 1 => T16n1
 | _ => .skip
theorem t16n0 : T16 0 = T16n0 := rfl
theorem t16n1 : T16 1 = T16n1 := rfl
def X16 : XC := .seq (.ops [.mk (some 0) none (.k (.mov (.const (.bool false))))]) (.ref 1)
abbrev K16 : List Nat := [0, 1, 2]
theorem n16 : Tryz.f16.ntmps = 63 := by kernel_rfl
theorem r16 : resT Tryz.f16.results.toList = some [0] := by kernel_rfl
theorem x16 : cmpF Tryz.prog Tryz.f16 = some (expand T16 3 X16) := by kernel_rfl
def T32n0 : XC := .seq (.ops [.mk (some 9) none (.k (.mov (.tmp 1))), .mk (some 0) none (.k (.mov (.tmp 9)))]) .ret
def T32n1 : XC := .seq (.ops [.mk (some 5) none (.call 66 [.const (.string (ByteArray.mk (Array.mk [UInt8.ofNat 115, UInt8.ofNat 101, UInt8.ofNat 116, UInt8.ofNat 32, UInt8.ofNat 49, UInt8.ofNat 32, UInt8.ofNat 48, UInt8.ofNat 10, UInt8.ofNat 101, UInt8.ofNat 113, UInt8.ofNat 32, UInt8.ofNat 49, UInt8.ofNat 32, UInt8.ofNat 50, UInt8.ofNat 32, UInt8.ofNat 52, UInt8.ofNat 10, UInt8.ofNat 115, UInt8.ofNat 101, UInt8.ofNat 116, UInt8.ofNat 32, UInt8.ofNat 49, UInt8.ofNat 32, UInt8.ofNat 49, UInt8.ofNat 10, UInt8.ofNat 106, UInt8.ofNat 117, UInt8.ofNat 109, UInt8.ofNat 112, UInt8.ofNat 32, UInt8.ofNat 49, UInt8.ofNat 10, UInt8.ofNat 104, UInt8.ofNat 97, UInt8.ofNat 108, UInt8.ofNat 116])))]), .mk (some 4) none (.k (.mov (.tmp 5))), .mk (some 6) none (.k (.ext (.tmp 4) 0)), .mk (some 7) none (.k (.ext (.tmp 4) 1)), .mk (some 8) none (.k (.ext (.tmp 4) 2)), .mk (some 1) none (.k (.mov (.tmp 6))), .mk (some 2) none (.k (.mov (.tmp 7))), .mk (some 3) none (.k (.mov (.tmp 8)))]) (.ref 0)
def T32 : Nat → XC
 | 0 => T32n0
 | 1 => T32n1
 | _ => .skip
theorem t32n0 : T32 0 = T32n0 := rfl
theorem t32n1 : T32 1 = T32n1 := rfl
def X32 : XC := .seq (.ops [.mk (some 0) none (.k (.mov (.const (.slice none 0 0))))]) (.ref 1)
abbrev K32 : List Nat := [0, 1]
theorem n32 : Tryz.f32.ntmps = 10 := by kernel_rfl
theorem r32 : resT Tryz.f32.results.toList = some [0] := by kernel_rfl
theorem x32 : cmpF Tryz.prog Tryz.f32 = some (expand T32 3 X32) := by kernel_rfl
end Go.Proofs.YtlbiogokpadaoaaGreatDoor
