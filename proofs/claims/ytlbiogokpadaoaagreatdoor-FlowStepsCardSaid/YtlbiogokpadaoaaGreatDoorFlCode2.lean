/- Printed by program: the small code of functions, and that it is theirs. -/
import Derived.Test.YtlbiogokpadaoaaGreatDoorSxStill
import Derived.Test.YtlbiogokpadaoaaGreatDoorProg
import Derived.KernelRfl
set_option linter.unusedSimpArgs false
set_option linter.unusedVariables false
set_option linter.unnecessarySimpa false
namespace Go.Proofs.YtlbiogokpadaoaaGreatDoor
open Go Go.Sx
set_option maxRecDepth 100000
theorem n7 : Tryz.f7.ntmps = 154 := by kernel_rfl
theorem r7 : resT Tryz.f7.results.toList = some [2] := by kernel_rfl
theorem n8 : Tryz.f8.ntmps = 152 := by kernel_rfl
def T11n0 : XC := .seq (.ops [.mk (some 34) none (.k (.mov (.tmp 7))), .mk (some 6) none (.k (.mov (.tmp 34)))]) .ret
def T11n1 : XC := .seq (.ops [.mk (some 6) none (.k (.mov (.const (.bool false))))]) .ret
def T11n2 : XC := .seq (.ops [.mk (some 91) none (.k (.mov (.tmp 7))), .mk (some 92) none (.k (.mov (.tmp 91))), .mk (some 93) (some (92, true)) (.k (.fld 0 (.tmp 12))), .mk (some 94) (some (92, true)) (.k (.load [.int .i64] false (.tmp 93))), .mk (some 95) (some (92, true)) (.k (.cmp .neq .i64 (.tmp 94) (.const (.int .i64 0)))), .mk (some 96) none (.k (.pick (.tmp 92) (.tmp 95) (.const (.bool false)))), .mk (some 97) none (.k (.mov (.tmp 96))), .mk (some 98) (some (97, true)) (.k (.fld 0 (.tmp 12))), .mk (some 99) (some (97, true)) (.k (.load [.int .i64] false (.tmp 98))), .mk (some 100) (some (97, true)) (.k (.cmp .neq .i64 (.tmp 99) (.const (.int .i64 7)))), .mk (some 101) none (.k (.pick (.tmp 97) (.tmp 100) (.const (.bool false)))), .mk (some 102) none (.k (.mov (.tmp 101))), .mk (some 103) (some (102, true)) (.k (.fld 1 (.tmp 12))), .mk (some 104) (some (102, true)) (.k (.load [.int .i64] false (.tmp 103))), .mk (some 105) (some (102, true)) (.k (.mov (.tmp 2))), .mk (some 106) (some (102, true)) (.k (.arith .add .i64 (.tmp 105) (.const (.int .i64 1)))), .mk (some 107) (some (102, true)) (.k (.cmp .eql .i64 (.tmp 104) (.tmp 106))), .mk (some 108) none (.k (.pick (.tmp 102) (.tmp 107) (.const (.bool false)))), .mk (some 6) none (.k (.mov (.tmp 108)))]) .ret
def T11n3 : XC := .seq (.ops [.mk (some 124) none (.k (.mov (.tmp 7))), .mk (some 6) none (.k (.mov (.tmp 124)))]) .ret
def T11n4 : XC := .ops [.mk (some 143) none (.k (.mov (.tmp 13))), .mk (some 144) none (.k (.mov (.tmp 143))), .mk (some 145) (some (144, false)) (.k (.mov (.tmp 15))), .mk (some 146) (some (144, false)) (.k (.cmp .geq .i64 (.tmp 145) (.const (.int .i64 0)))), .mk (some 147) (some (144, false)) (.k (.mov (.tmp 146))), .mk (some 148) (some (147, true)) (.k (.mov (.tmp 15))), .mk (some 149) (some (147, true)) (.k (.mov (.tmp 8))), .mk (some 150) (some (147, true)) (.k (.lenS (.tmp 149))), .mk (some 151) (some (147, true)) (.k (.cmp .lss .i64 (.tmp 148) (.tmp 150))), .mk (some 152) (some (144, false)) (.k (.pick (.tmp 147) (.tmp 151) (.const (.bool false)))), .mk (some 153) (some (144, false)) (.k (.mov (.tmp 152))), .mk (some 154) (some (153, true)) (.k (.mov (.tmp 8))), .mk (some 155) (some (153, true)) (.k (.mov (.tmp 15))), .mk (some 156) (some (153, true)) (.k (.idx 3 (.tmp 154) (.tmp 155))), .mk (some 157) (some (153, true)) (.k (.fld 0 (.tmp 156))), .mk (some 158) (some (153, true)) (.k (.load [.int .i64] false (.tmp 157))), .mk (some 159) (some (153, true)) (.k (.fld 1 (.tmp 12))), .mk (some 160) (some (153, true)) (.k (.load [.int .i64] false (.tmp 159))), .mk (some 161) (some (153, true)) (.k (.cmp .eql .i64 (.tmp 158) (.tmp 160))), .mk (some 162) (some (144, false)) (.k (.pick (.tmp 153) (.tmp 161) (.const (.bool false)))), .mk (some 163) none (.k (.pick (.tmp 144) (.const (.bool true)) (.tmp 162))), .mk (some 13) none (.k (.mov (.tmp 163)))]
def T11n5 : XC := .ops [.mk (some 133) none (.k (.mov (.tmp 14))), .mk (some 134) none (.k (.arith .add .i64 (.tmp 133) (.const (.int .i64 1)))), .mk (some 14) none (.k (.mov (.tmp 134)))]
def T11n6 : XC := .seq (.blk 1 (.seq (.ops [.mk (some 135) none (.k (.mov (.tmp 8))), .mk (some 136) none (.k (.mov (.tmp 10))), .mk (some 137) none (.k (.idx 3 (.tmp 135) (.tmp 136))), .mk (some 138) none (.k (.fld 2 (.tmp 137))), .mk (some 139) none (.k (.load [.slc] false (.tmp 138))), .mk (some 140) none (.k (.mov (.tmp 14))), .mk (some 141) none (.k (.idx 1 (.tmp 139) (.tmp 140))), .mk (some 142) none (.k (.load [.int .i64] false (.tmp 141))), .mk (some 15) none (.k (.mov (.tmp 142)))]) (.ref 4))) (.ref 5)
def T11n7 : XC := .seq (.seq (.ops [.mk (some 125) none (.k (.mov (.tmp 14))), .mk (some 126) none (.k (.mov (.tmp 8))), .mk (some 127) none (.k (.mov (.tmp 10))), .mk (some 128) none (.k (.idx 3 (.tmp 126) (.tmp 127))), .mk (some 129) none (.k (.fld 2 (.tmp 128))), .mk (some 130) none (.k (.load [.slc] false (.tmp 129))), .mk (some 131) none (.k (.lenS (.tmp 130))), .mk (some 132) none (.k (.cmp .lss .i64 (.tmp 125) (.tmp 131)))]) (.cond (.tmp 132) .skip (.exit 0))) (.ref 6)
def T11n8 : XC := .seq (.ops [.mk (some 164) none (.k (.mov (.tmp 7))), .mk (some 165) none (.k (.mov (.tmp 164))), .mk (some 166) (some (165, true)) (.k (.mov (.tmp 13))), .mk (some 167) none (.k (.pick (.tmp 165) (.tmp 166) (.const (.bool false)))), .mk (some 6) none (.k (.mov (.tmp 167)))]) .ret
def T11n9 : XC := .seq (.seq (.ops [.mk (some 14) none (.k (.mov (.const (.int .i64 0))))]) (.blk 0 (.loop (.ref 7)))) (.ref 8)
def T11n10 : XC := .seq (.ops [.mk (some 13) none (.k (.mov (.const (.bool false))))]) (.ref 9)
def T11n11 : XC := .seq (.seq (.ops [.mk (some 109) none (.k (.fld 0 (.tmp 12))), .mk (some 110) none (.k (.load [.int .i64] false (.tmp 109))), .mk (some 111) none (.k (.cmp .eql .i64 (.tmp 110) (.const (.int .i64 0)))), .mk (some 112) none (.k (.mov (.tmp 111))), .mk (some 113) (some (112, false)) (.k (.fld 0 (.tmp 12))), .mk (some 114) (some (112, false)) (.k (.load [.int .i64] false (.tmp 113))), .mk (some 115) (some (112, false)) (.k (.cmp .eql .i64 (.tmp 114) (.const (.int .i64 7)))), .mk (some 116) none (.k (.pick (.tmp 112) (.const (.bool true)) (.tmp 115))), .mk (some 117) none (.k (.mov (.tmp 116))), .mk (some 118) (some (117, false)) (.k (.fld 1 (.tmp 12))), .mk (some 119) (some (117, false)) (.k (.load [.int .i64] false (.tmp 118))), .mk (some 120) (some (117, false)) (.k (.mov (.tmp 0))), .mk (some 121) (some (117, false)) (.k (.lenS (.tmp 120))), .mk (some 122) (some (117, false)) (.k (.cmp .geq .i64 (.tmp 119) (.tmp 121))), .mk (some 123) none (.k (.pick (.tmp 117) (.const (.bool true)) (.tmp 122)))]) (.cond (.tmp 123) (.ref 3) .skip)) (.ref 10)
def T11n12 : XC := .seq (.seq (.ops [.mk (some 83) none (.k (.mov (.tmp 2))), .mk (some 84) none (.k (.arith .add .i64 (.tmp 83) (.const (.int .i64 1)))), .mk (some 85) none (.k (.mov (.tmp 8))), .mk (some 86) none (.k (.mov (.tmp 10))), .mk (some 87) none (.k (.idx 3 (.tmp 85) (.tmp 86))), .mk (some 88) none (.k (.fld 1 (.tmp 87))), .mk (some 89) none (.k (.load [.int .i64] false (.tmp 88))), .mk (some 90) none (.k (.cmp .lss .i64 (.tmp 84) (.tmp 89)))]) (.cond (.tmp 90) (.ref 2) .skip)) (.ref 11)
def T11n13 : XC := .seq (.seq (.ops [.mk (some 46) none (.k (.mov (.tmp 11))), .mk (some 47) none (.k (.cmp .neq .i64 (.tmp 46) (.const (.int .i64 0)))), .mk (some 48) none (.k (.mov (.tmp 47))), .mk (some 49) (some (48, false)) (.k (.mov (.tmp 10))), .mk (some 50) (some (48, false)) (.k (.cmp .lss .i64 (.tmp 49) (.const (.int .i64 0)))), .mk (some 51) none (.k (.pick (.tmp 48) (.const (.bool true)) (.tmp 50))), .mk (some 52) none (.k (.mov (.tmp 51))), .mk (some 53) (some (52, false)) (.k (.mov (.tmp 10))), .mk (some 54) (some (52, false)) (.k (.mov (.tmp 8))), .mk (some 55) (some (52, false)) (.k (.lenS (.tmp 54))), .mk (some 56) (some (52, false)) (.k (.cmp .geq .i64 (.tmp 53) (.tmp 55))), .mk (some 57) none (.k (.pick (.tmp 52) (.const (.bool true)) (.tmp 56))), .mk (some 58) none (.k (.mov (.tmp 57))), .mk (some 59) (some (58, false)) (.k (.mov (.tmp 2))), .mk (some 60) (some (58, false)) (.k (.mov (.tmp 8))), .mk (some 61) (some (58, false)) (.k (.mov (.tmp 10))), .mk (some 62) (some (58, false)) (.k (.idx 3 (.tmp 60) (.tmp 61))), .mk (some 63) (some (58, false)) (.k (.fld 0 (.tmp 62))), .mk (some 64) (some (58, false)) (.k (.load [.int .i64] false (.tmp 63))), .mk (some 65) (some (58, false)) (.k (.cmp .lss .i64 (.tmp 59) (.tmp 64))), .mk (some 66) none (.k (.pick (.tmp 58) (.const (.bool true)) (.tmp 65))), .mk (some 67) none (.k (.mov (.tmp 66))), .mk (some 68) (some (67, false)) (.k (.mov (.tmp 2))), .mk (some 69) (some (67, false)) (.k (.mov (.tmp 8))), .mk (some 70) (some (67, false)) (.k (.mov (.tmp 10))), .mk (some 71) (some (67, false)) (.k (.idx 3 (.tmp 69) (.tmp 70))), .mk (some 72) (some (67, false)) (.k (.fld 1 (.tmp 71))), .mk (some 73) (some (67, false)) (.k (.load [.int .i64] false (.tmp 72))), .mk (some 74) (some (67, false)) (.k (.cmp .geq .i64 (.tmp 68) (.tmp 73))), .mk (some 75) none (.k (.pick (.tmp 67) (.const (.bool true)) (.tmp 74)))]) (.cond (.tmp 75) (.ref 1) .skip)) (.seq (.alt 9 (.seq (.mk (some 76) none (.k (.mov (.tmp 0)))) 0 (.seq (.mk (some 77) none (.k (.mov (.tmp 2)))) 1 (.seq (.mk (some 78) none (.k (.idx 5 (.tmp 76) (.tmp 77)))) 2 (.seq (.mk (some 81) none (.k (.mov (.tmp 2)))) 5 (.seq (.mk (some 79) none (.k (.load [.int .i64, .int .i64, .int .i64, .int .i64, .int .i64] true (.tmp 78)))) 3 (.seq (.mk (some 80) none (.k (.load [.int .u64, .int .u64, .int .u64, .int .u64, .int .u64, .int .u64, .int .u64, .int .u64] true (.tmp 4)))) 4 (.alt (.seq (.mk (some 82) none (.call 24 [.tmp 79, .tmp 80, .tmp 81])) 6 (.seq (.mk (some 12) none (.k (.alloc 54 [.int .i64 0, .int .i64 0, .int .i64 0, .int .u64 0, .int .u64 0]))) 7 (.seq (.mk none none (.k (.store 5 (.tmp 12) (.tmp 82)))) 8 .done))) (.seq (.mk (some 12) none (.k (.alloc 54 [.int .i64 0, .int .i64 0, .int .i64 0, .int .u64 0, .int .u64 0]))) 7 (.seq (.mk (some 82) none (.call 24 [.tmp 79, .tmp 80, .tmp 81])) 6 (.seq (.mk none none (.k (.store 5 (.tmp 12) (.tmp 82)))) 8 .done))))))))))) (.ref 12))
def T11n14 : XC := .seq (.ops [.mk (some 41) none (.k (.mov (.tmp 0))), .mk (some 42) none (.k (.mov (.tmp 2))), .mk (some 43) none (.call 23 [.tmp 41, .tmp 42]), .mk (some 40) none (.k (.mov (.tmp 43))), .mk (some 44) none (.k (.ext (.tmp 40) 0)), .mk (some 45) none (.k (.ext (.tmp 40) 1)), .mk (some 10) none (.k (.mov (.tmp 44))), .mk (some 11) none (.k (.mov (.tmp 45)))]) (.ref 13)
def T11n15 : XC := .seq (.ops [.mk (some 36) none (.k (.mov (.tmp 0))), .mk (some 37) none (.call 17 [.tmp 36]), .mk (some 35) none (.k (.mov (.tmp 37))), .mk (some 38) none (.k (.ext (.tmp 35) 0)), .mk (some 39) none (.k (.ext (.tmp 35) 1)), .mk (some 8) none (.k (.mov (.tmp 38))), .mk (some 9) none (.k (.mov (.tmp 39)))]) (.ref 14)
def T11n16 : XC := .seq (.seq (.ops [.mk (some 17) none (.k (.mov (.tmp 0))), .mk (some 18) none (.k (.lenS (.tmp 17))), .mk (some 19) none (.k (.cmp .gtr .i64 (.tmp 18) (.const (.int .i64 200)))), .mk (some 20) none (.k (.mov (.tmp 19))), .mk (some 21) (some (20, false)) (.k (.mov (.tmp 2))), .mk (some 22) (some (20, false)) (.k (.cmp .lss .i64 (.tmp 21) (.const (.int .i64 0)))), .mk (some 23) none (.k (.pick (.tmp 20) (.const (.bool true)) (.tmp 22))), .mk (some 24) none (.k (.mov (.tmp 23))), .mk (some 25) (some (24, false)) (.k (.mov (.tmp 2))), .mk (some 26) (some (24, false)) (.k (.mov (.tmp 0))), .mk (some 27) (some (24, false)) (.k (.lenS (.tmp 26))), .mk (some 28) (some (24, false)) (.k (.cmp .geq .i64 (.tmp 25) (.tmp 27))), .mk (some 29) none (.k (.pick (.tmp 24) (.const (.bool true)) (.tmp 28))), .mk (some 30) none (.k (.mov (.tmp 29))), .mk (some 31) (some (30, false)) (.k (.mov (.tmp 7))), .mk (some 32) (some (30, false)) (.k (.not (.tmp 31))), .mk (some 33) none (.k (.pick (.tmp 30) (.const (.bool true)) (.tmp 32)))]) (.cond (.tmp 33) (.ref 0) .skip)) (.ref 15)
def T11n17 : XC := .seq (.ops [.mk (some 16) none (.call 16 []), .mk (some 7) none (.k (.mov (.tmp 16)))]) (.ref 16)
def T11 : Nat → XC
 | 0 => T11n0
 | 1 => T11n1
 | 2 => T11n2
 | 3 => T11n3
 | 4 => T11n4
 | 5 => T11n5
 | 6 => T11n6
 | 7 => T11n7
 | 8 => T11n8
 | 9 => T11n9
 | 10 => T11n10
 | 11 => T11n11
 | 12 => T11n12
 | 13 => T11n13
 | 14 => T11n14
 | 15 => T11n15
 | 16 => T11n16
 | 17 => T11n17
 | _ => .skip
theorem t11n0 : T11 0 = T11n0 := rfl
theorem t11n1 : T11 1 = T11n1 := rfl
theorem t11n2 : T11 2 = T11n2 := rfl
theorem t11n3 : T11 3 = T11n3 := rfl
theorem t11n4 : T11 4 = T11n4 := rfl
theorem t11n5 : T11 5 = T11n5 := rfl
theorem t11n6 : T11 6 = T11n6 := rfl
theorem t11n7 : T11 7 = T11n7 := rfl
theorem t11n8 : T11 8 = T11n8 := rfl
theorem t11n9 : T11 9 = T11n9 := rfl
theorem t11n10 : T11 10 = T11n10 := rfl
theorem t11n11 : T11 11 = T11n11 := rfl
theorem t11n12 : T11 12 = T11n12 := rfl
theorem t11n13 : T11 13 = T11n13 := rfl
theorem t11n14 : T11 14 = T11n14 := rfl
theorem t11n15 : T11 15 = T11n15 := rfl
theorem t11n16 : T11 16 = T11n16 := rfl
theorem t11n17 : T11 17 = T11n17 := rfl
def X11 : XC := .seq (.ops [.mk (some 4) none (.k (.box 50 8 (.tmp 1))), .mk (some 6) none (.k (.mov (.const (.bool false))))]) (.ref 17)
abbrev K11 : List Nat := [0, 1, 2, 4, 6, 7, 8, 10, 11, 12, 13, 14, 15, 33, 75, 76, 77, 78, 79, 80, 81, 82, 90, 123, 132]
theorem n11 : Tryz.f11.ntmps = 168 := by kernel_rfl
theorem r11 : resT Tryz.f11.results.toList = some [6] := by kernel_rfl
theorem x11 : cmpF Tryz.prog Tryz.f11 = some (expand T11 19 X11) := by kernel_rfl
def T16n0 : XC := .seq (.ops [.mk (some 8) none (.k (.mov (.tmp 2))), .mk (some 9) none (.k (.cmp .eql .i64 (.tmp 8) (.const (.int .i64 0)))), .mk (some 10) none (.k (.mov (.tmp 9))), .mk (some 11) (some (10, true)) (.k (.mov (.tmp 1))), .mk (some 12) (some (10, true)) (.k (.lenS (.tmp 11))), .mk (some 13) (some (10, true)) (.k (.cmp .eql .i64 (.tmp 12) (.const (.int .i64 4)))), .mk (some 14) none (.k (.pick (.tmp 10) (.tmp 13) (.const (.bool false)))), .mk (some 15) none (.k (.mov (.tmp 14))), .mk (some 16) (some (15, true)) (.k (.mov (.tmp 1))), .mk (some 17) (some (15, true)) (.k (.idx 3 (.tmp 16) (.const (.int .i64 1)))), .mk (some 18) (some (15, true)) (.k (.fld 0 (.tmp 17))), .mk (some 19) (some (15, true)) (.k (.load [.int .i64] false (.tmp 18))), .mk (some 20) (some (15, true)) (.k (.cmp .eql .i64 (.tmp 19) (.const (.int .i64 1)))), .mk (some 21) none (.k (.pick (.tmp 15) (.tmp 20) (.const (.bool false)))), .mk (some 22) none (.k (.mov (.tmp 21))), .mk (some 23) (some (22, true)) (.k (.mov (.tmp 1))), .mk (some 24) (some (22, true)) (.k (.idx 3 (.tmp 23) (.const (.int .i64 1)))), .mk (some 25) (some (22, true)) (.k (.fld 1 (.tmp 24))), .mk (some 26) (some (22, true)) (.k (.load [.int .i64] false (.tmp 25))), .mk (some 27) (some (22, true)) (.k (.cmp .eql .i64 (.tmp 26) (.const (.int .i64 2)))), .mk (some 28) none (.k (.pick (.tmp 22) (.tmp 27) (.const (.bool false)))), .mk (some 29) none (.k (.mov (.tmp 28))), .mk (some 30) (some (29, true)) (.k (.mov (.tmp 1))), .mk (some 31) (some (29, true)) (.k (.idx 3 (.tmp 30) (.const (.int .i64 1)))), .mk (some 32) (some (29, true)) (.k (.fld 2 (.tmp 31))), .mk (some 33) (some (29, true)) (.k (.load [.slc] false (.tmp 32))), .mk (some 34) (some (29, true)) (.k (.lenS (.tmp 33))), .mk (some 35) (some (29, true)) (.k (.cmp .eql .i64 (.tmp 34) (.const (.int .i64 2)))), .mk (some 36) none (.k (.pick (.tmp 29) (.tmp 35) (.const (.bool false)))), .mk (some 37) none (.k (.mov (.tmp 36))), .mk (some 38) (some (37, true)) (.k (.mov (.tmp 1))), .mk (some 39) (some (37, true)) (.k (.idx 3 (.tmp 38) (.const (.int .i64 1)))), .mk (some 40) (some (37, true)) (.k (.fld 2 (.tmp 39))), .mk (some 41) (some (37, true)) (.k (.load [.slc] false (.tmp 40))), .mk (some 42) (some (37, true)) (.k (.idx 1 (.tmp 41) (.const (.int .i64 0)))), .mk (some 43) (some (37, true)) (.k (.load [.int .i64] false (.tmp 42))), .mk (some 44) (some (37, true)) (.k (.cmp .eql .i64 (.tmp 43) (.const (.int .i64 2)))), .mk (some 45) none (.k (.pick (.tmp 37) (.tmp 44) (.const (.bool false)))), .mk (some 46) none (.k (.mov (.tmp 45))), .mk (some 47) (some (46, true)) (.k (.mov (.tmp 1))), .mk (some 48) (some (46, true)) (.k (.idx 3 (.tmp 47) (.const (.int .i64 1)))), .mk (some 49) (some (46, true)) (.k (.fld 2 (.tmp 48))), .mk (some 50) (some (46, true)) (.k (.load [.slc] false (.tmp 49))), .mk (some 51) (some (46, true)) (.k (.idx 1 (.tmp 50) (.const (.int .i64 1)))), .mk (some 52) (some (46, true)) (.k (.load [.int .i64] false (.tmp 51))), .mk (some 53) (some (46, true)) (.k (.cmp .eql .i64 (.tmp 52) (.const (.int .i64 3)))), .mk (some 54) none (.k (.pick (.tmp 46) (.tmp 53) (.const (.bool false)))), .mk (some 55) none (.k (.mov (.tmp 54))), .mk (some 56) (some (55, true)) (.k (.mov (.tmp 1))), .mk (some 57) (some (55, true)) (.k (.idx 3 (.tmp 56) (.const (.int .i64 3)))), .mk (some 58) (some (55, true)) (.k (.fld 2 (.tmp 57))), .mk (some 59) (some (55, true)) (.k (.load [.slc] false (.tmp 58))), .mk (some 60) (some (55, true)) (.k (.lenS (.tmp 59))), .mk (some 61) (some (55, true)) (.k (.cmp .eql .i64 (.tmp 60) (.const (.int .i64 0)))), .mk (some 62) none (.k (.pick (.tmp 55) (.tmp 61) (.const (.bool false)))), .mk (some 0) none (.k (.mov (.tmp 62)))]) .ret
def T16n1 : XC := .seq (.ops [.mk (some 4) none (.call 32 []), .mk (some 5) none (.call 17 [.tmp 4]), .mk (some 3) none (.k (.mov (.tmp 5))), .mk (some 6) none (.k (.ext (.tmp 3) 0)), .mk (some 7) none (.k (.ext (.tmp 3) 1)), .mk (some 1) none (.k (.mov (.tmp 6))), .mk (some 2) none (.k (.mov (.tmp 7)))]) (.ref 0)
def T16 : Nat → XC
 | 0 => T16n0
 | 1 => T16n1
 | _ => .skip
theorem t16n0 : T16 0 = T16n0 := rfl
theorem t16n1 : T16 1 = T16n1 := rfl
def X16 : XC := .seq (.ops [.mk (some 0) none (.k (.mov (.const (.bool false))))]) (.ref 1)
abbrev K16 : List Nat := [0, 1, 2]
theorem n16 : Tryz.f16.ntmps = 63 := by kernel_rfl
theorem r16 : resT Tryz.f16.results.toList = some [0] := by kernel_rfl
theorem x16 : cmpF Tryz.prog Tryz.f16 = some (expand T16 3 X16) := by kernel_rfl
def T32n0 : XC := .seq (.ops [.mk (some 9) none (.k (.mov (.tmp 1))), .mk (some 0) none (.k (.mov (.tmp 9)))]) .ret
def T32n1 : XC := .seq (.ops [.mk (some 5) none (.call 66 [.const (.string (ByteArray.mk (Array.mk [UInt8.ofNat 115, UInt8.ofNat 101, UInt8.ofNat 116, UInt8.ofNat 32, UInt8.ofNat 49, UInt8.ofNat 32, UInt8.ofNat 48, UInt8.ofNat 10, UInt8.ofNat 101, UInt8.ofNat 113, UInt8.ofNat 32, UInt8.ofNat 49, UInt8.ofNat 32, UInt8.ofNat 50, UInt8.ofNat 32, UInt8.ofNat 52, UInt8.ofNat 10, UInt8.ofNat 115, UInt8.ofNat 101, UInt8.ofNat 116, UInt8.ofNat 32, UInt8.ofNat 49, UInt8.ofNat 32, UInt8.ofNat 49, UInt8.ofNat 10, UInt8.ofNat 106, UInt8.ofNat 117, UInt8.ofNat 109, UInt8.ofNat 112, UInt8.ofNat 32, UInt8.ofNat 49, UInt8.ofNat 10, UInt8.ofNat 104, UInt8.ofNat 97, UInt8.ofNat 108, UInt8.ofNat 116])))]), .mk (some 4) none (.k (.mov (.tmp 5))), .mk (some 6) none (.k (.ext (.tmp 4) 0)), .mk (some 7) none (.k (.ext (.tmp 4) 1)), .mk (some 8) none (.k (.ext (.tmp 4) 2)), .mk (some 1) none (.k (.mov (.tmp 6))), .mk (some 2) none (.k (.mov (.tmp 7))), .mk (some 3) none (.k (.mov (.tmp 8)))]) (.ref 0)
def T32 : Nat → XC
 | 0 => T32n0
 | 1 => T32n1
 | _ => .skip
theorem t32n0 : T32 0 = T32n0 := rfl
theorem t32n1 : T32 1 = T32n1 := rfl
def X32 : XC := .seq (.ops [.mk (some 0) none (.k (.mov (.const (.slice none 0 0))))]) (.ref 1)
abbrev K32 : List Nat := [0, 1]
theorem n32 : Tryz.f32.ntmps = 10 := by kernel_rfl
theorem r32 : resT Tryz.f32.results.toList = some [0] := by kernel_rfl
theorem x32 : cmpF Tryz.prog Tryz.f32 = some (expand T32 3 X32) := by kernel_rfl
end Go.Proofs.YtlbiogokpadaoaaGreatDoor
