/- Printed by program: the small code of functions, and that it is theirs. -/
import Derived.Test.YtbkpiljencaoeaaSxStill
import Derived.Test.YtbkpiljencaoeaaProg
import Derived.KernelRfl
set_option linter.unusedSimpArgs false
set_option linter.unusedVariables false
set_option linter.unnecessarySimpa false
namespace Go.Proofs.Ytbkpiljencaoeaa
open Go Go.Sx
set_option maxRecDepth 100000
def T49n0 : XC := .seq (.ops [.mk (some 16) none (.k (.mov (.tmp 5))), .mk (some 2) none (.k (.mov (.const (.slice none 0 0)))), .mk (some 3) none (.k (.mov (.tmp 16)))]) .ret
def T49n1 : XC := .ops [.mk (some 23) none (.k (.mov (.tmp 6))), .mk (some 24) none (.k (.mov (.tmp 8))), .mk (some 25) none (.k (.nilc (.tmp 24))), .mk (some 26) none (.k (.fld 0 (.tmp 25))), .mk (some 27) none (.k (.load [.int .i64, .int .i64, .int .i64, .int .i64, .int .i64, .int .i64, .int .i64, .slc, .slc, .bool, .int .i64] true (.tmp 26))), .mk (some 28) none (.k (.buildS 75 1 11 [.int .i64 0, .int .i64 0, .int .i64 0, .int .i64 0, .int .i64 0, .int .i64 0, .int .i64 0, .slice none 0 0, .slice none 0 0, .bool false, .int .i64 0] [(0, .tmp 27)])), .mk (some 29) none (.k (.app 75 11 120 (.tmp 23) (.tmp 28))), .mk (some 6) none (.k (.mov (.tmp 29)))]
def T49n2 : XC := .seq (.blk 1 (.seq (.ops [.mk (some 21) none (.k (.idx 1 (.tmp 17) (.tmp 19))), .mk (some 22) none (.k (.load [.ptr] false (.tmp 21))), .mk (some 8) none (.k (.mov (.tmp 22)))]) (.ref 1))) (.ops [.mk (some 30) none (.k (.arith .add .i64 (.tmp 19) (.const (.int .i64 1)))), .mk (some 19) none (.k (.mov (.tmp 30)))])
def T49n3 : XC := .seq (.cond (.tmp 20) .skip (.exit 0)) (.ref 2)
def T49n4 : XC := .seq (.ops [.mk (some 20) none (.k (.cmp .lss .i64 (.tmp 19) (.tmp 18)))]) (.ref 3)
def T49n5 : XC := .seq (.ops [.mk (some 31) none (.k (.mov (.tmp 6))), .mk (some 2) none (.k (.mov (.tmp 31))), .mk (some 3) none (.k (.mov (.const (.int .i64 0))))]) .ret
def T49n6 : XC := .seq (.seq (.ops [.mk (some 17) none (.k (.mov (.tmp 4))), .mk (some 18) none (.k (.lenS (.tmp 17))), .mk (some 19) none (.k (.mov (.const (.int .i64 0))))]) (.blk 0 (.loop (.ref 4)))) (.ref 5)
def T49n7 : XC := .seq (.ops [.mk (some 6) none (.k (.mov (.const (.slice none 0 0))))]) (.ref 6)
def T49n8 : XC := .seq (.seq (.ops [.mk (some 14) none (.k (.mov (.tmp 5))), .mk (some 15) none (.k (.cmp .neq .i64 (.tmp 14) (.const (.int .i64 0))))]) (.cond (.tmp 15) (.ref 0) .skip)) (.ref 7)
def T49n9 : XC := .seq (.ops [.mk (some 10) none (.k (.mov (.tmp 0))), .mk (some 11) none (.call 39 [.tmp 10]), .mk (some 9) none (.k (.mov (.tmp 11))), .mk (some 12) none (.k (.ext (.tmp 9) 0)), .mk (some 13) none (.k (.ext (.tmp 9) 1)), .mk (some 4) none (.k (.mov (.tmp 12))), .mk (some 5) none (.k (.mov (.tmp 13)))]) (.ref 8)
def T49 : Nat → XC
 | 0 => T49n0
 | 1 => T49n1
 | 2 => T49n2
 | 3 => T49n3
 | 4 => T49n4
 | 5 => T49n5
 | 6 => T49n6
 | 7 => T49n7
 | 8 => T49n8
 | 9 => T49n9
 | _ => .skip
theorem t49n0 : T49 0 = T49n0 := rfl
theorem t49n1 : T49 1 = T49n1 := rfl
theorem t49n2 : T49 2 = T49n2 := rfl
theorem t49n3 : T49 3 = T49n3 := rfl
theorem t49n4 : T49 4 = T49n4 := rfl
theorem t49n5 : T49 5 = T49n5 := rfl
theorem t49n6 : T49 6 = T49n6 := rfl
theorem t49n7 : T49 7 = T49n7 := rfl
theorem t49n8 : T49 8 = T49n8 := rfl
theorem t49n9 : T49 9 = T49n9 := rfl
def X49 : XC := .seq (.ops [.mk (some 2) none (.k (.mov (.const (.slice none 0 0)))), .mk (some 3) none (.k (.mov (.const (.int .i64 0))))]) (.ref 9)
abbrev K49 : List Nat := [0, 2, 3, 4, 5, 6, 8, 15, 17, 18, 19, 20]
theorem n49 : Try.f49.ntmps = 32 := by kernel_rfl
theorem r49 : resT Try.f49.results.toList = some [2, 3] := by kernel_rfl
theorem x49 : cmpF Try.prog Try.f49 = some (expand T49 11 X49) := by kernel_rfl
def T55n0 : XC := .seq (.ops [.mk (some 2) none (.k (.mov (.const (.bool false))))]) .ret
def T55n1 : XC := .seq (.ops [.mk (some 2) none (.k (.mov (.const (.bool false))))]) .ret
def T55n2 : XC := .seq (.ops [.mk (some 2) none (.k (.mov (.const (.bool false))))]) .ret
def T55n3 : XC := .seq (.ops [.mk (some 2) none (.k (.mov (.const (.bool false))))]) .ret
def T55n4 : XC := .seq (.ops [.mk (some 2) none (.k (.mov (.const (.bool false))))]) .ret
def T55n5 : XC := .seq (.ops [.mk (some 2) none (.k (.mov (.const (.bool false))))]) .ret
def T55n6 : XC := .seq (.ops [.mk (some 133) none (.k (.fld 0 (.tmp 4))), .mk (some 134) none (.k (.load [.int .i64] false (.tmp 133))), .mk (some 135) none (.k (.cmp .eql .i64 (.tmp 134) (.const (.int .i64 6)))), .mk (some 136) none (.k (.mov (.tmp 135))), .mk (some 137) (some (136, true)) (.k (.fld 8 (.tmp 4))), .mk (some 138) (some (136, true)) (.k (.load [.int .i64] false (.tmp 137))), .mk (some 139) (some (136, true)) (.k (.cmp .lss .i64 (.tmp 138) (.const (.int .i64 1)))), .mk (some 140) (some (136, true)) (.k (.mov (.tmp 139))), .mk (some 141) (some (140, false)) (.k (.fld 8 (.tmp 4))), .mk (some 142) (some (140, false)) (.k (.load [.int .i64] false (.tmp 141))), .mk (some 143) (some (140, false)) (.k (.cmp .gtr .i64 (.tmp 142) (.const (.int .i64 8)))), .mk (some 144) (some (136, true)) (.k (.pick (.tmp 140) (.const (.bool true)) (.tmp 143))), .mk (some 145) none (.k (.pick (.tmp 136) (.tmp 144) (.const (.bool false))))]) (.cond (.tmp 145) (.ref 5) .skip)
def T55n7 : XC := .seq (.seq (.ops [.mk (some 101) none (.k (.fld 0 (.tmp 4))), .mk (some 102) none (.k (.load [.int .i64] false (.tmp 101))), .mk (some 103) none (.k (.cmp .geq .i64 (.tmp 102) (.const (.int .i64 2)))), .mk (some 104) none (.k (.mov (.tmp 103))), .mk (some 105) (some (104, true)) (.k (.fld 0 (.tmp 4))), .mk (some 106) (some (104, true)) (.k (.load [.int .i64] false (.tmp 105))), .mk (some 107) (some (104, true)) (.k (.cmp .leq .i64 (.tmp 106) (.const (.int .i64 6)))), .mk (some 108) none (.k (.pick (.tmp 104) (.tmp 107) (.const (.bool false)))), .mk (some 109) none (.k (.mov (.tmp 108))), .mk (some 110) (some (109, true)) (.k (.mov (.tmp 5))), .mk (some 111) (some (109, true)) (.k (.cmp .lss .i64 (.tmp 110) (.const (.int .i64 0)))), .mk (some 112) (some (109, true)) (.k (.mov (.tmp 111))), .mk (some 113) (some (112, false)) (.k (.mov (.tmp 0))), .mk (some 114) (some (112, false)) (.k (.mov (.tmp 5))), .mk (some 115) (some (112, false)) (.k (.idx 9 (.tmp 113) (.tmp 114))), .mk (some 116) (some (112, false)) (.k (.fld 3 (.tmp 115))), .mk (some 117) (some (112, false)) (.k (.load [.int .i64] false (.tmp 116))), .mk (some 118) (some (112, false)) (.k (.fld 3 (.tmp 4))), .mk (some 119) (some (112, false)) (.k (.load [.int .i64] false (.tmp 118))), .mk (some 120) (some (112, false)) (.k (.cmp .neq .i64 (.tmp 117) (.tmp 119))), .mk (some 121) (some (109, true)) (.k (.pick (.tmp 112) (.const (.bool true)) (.tmp 120))), .mk (some 122) (some (109, true)) (.k (.mov (.tmp 121))), .mk (some 123) (some (122, false)) (.k (.mov (.tmp 0))), .mk (some 124) (some (122, false)) (.k (.mov (.tmp 5))), .mk (some 125) (some (122, false)) (.k (.idx 9 (.tmp 123) (.tmp 124))), .mk (some 126) (some (122, false)) (.k (.fld 4 (.tmp 125))), .mk (some 127) (some (122, false)) (.k (.load [.int .i64] false (.tmp 126))), .mk (some 128) (some (122, false)) (.k (.fld 4 (.tmp 4))), .mk (some 129) (some (122, false)) (.k (.load [.int .i64] false (.tmp 128))), .mk (some 130) (some (122, false)) (.k (.cmp .neq .i64 (.tmp 127) (.tmp 129))), .mk (some 131) (some (109, true)) (.k (.pick (.tmp 122) (.const (.bool true)) (.tmp 130))), .mk (some 132) none (.k (.pick (.tmp 109) (.tmp 131) (.const (.bool false))))]) (.cond (.tmp 132) (.ref 4) .skip)) (.ref 6)
def T55n8 : XC := .seq (.seq (.ops [.mk (some 89) none (.k (.fld 0 (.tmp 4))), .mk (some 90) none (.k (.load [.int .i64] false (.tmp 89))), .mk (some 91) none (.k (.cmp .eql .i64 (.tmp 90) (.const (.int .i64 7)))), .mk (some 92) none (.k (.mov (.tmp 91))), .mk (some 93) (some (92, false)) (.k (.fld 0 (.tmp 4))), .mk (some 94) (some (92, false)) (.k (.load [.int .i64] false (.tmp 93))), .mk (some 95) (some (92, false)) (.k (.cmp .eql .i64 (.tmp 94) (.const (.int .i64 8)))), .mk (some 96) none (.k (.pick (.tmp 92) (.const (.bool true)) (.tmp 95))), .mk (some 97) none (.k (.mov (.tmp 96))), .mk (some 98) (some (97, true)) (.k (.mov (.tmp 5))), .mk (some 99) (some (97, true)) (.k (.cmp .geq .i64 (.tmp 98) (.const (.int .i64 0)))), .mk (some 100) none (.k (.pick (.tmp 97) (.tmp 99) (.const (.bool false))))]) (.cond (.tmp 100) (.ref 3) .skip)) (.ref 7)
def T55n9 : XC := .seq (.seq (.ops [.mk (some 62) none (.k (.fld 0 (.tmp 4))), .mk (some 63) none (.k (.load [.int .i64] false (.tmp 62))), .mk (some 64) none (.k (.cmp .eql .i64 (.tmp 63) (.const (.int .i64 1)))), .mk (some 65) none (.k (.mov (.tmp 64))), .mk (some 66) (some (65, true)) (.k (.mov (.tmp 5))), .mk (some 67) (some (65, true)) (.k (.cmp .geq .i64 (.tmp 66) (.const (.int .i64 0)))), .mk (some 68) (some (65, true)) (.k (.mov (.tmp 67))), .mk (some 69) (some (68, false)) (.k (.fld 5 (.tmp 4))), .mk (some 70) (some (68, false)) (.k (.load [.int .i64] false (.tmp 69))), .mk (some 71) (some (68, false)) (.k (.cmp .lss .i64 (.tmp 70) (.const (.int .i64 1)))), .mk (some 72) (some (65, true)) (.k (.pick (.tmp 68) (.const (.bool true)) (.tmp 71))), .mk (some 73) (some (65, true)) (.k (.mov (.tmp 72))), .mk (some 74) (some (73, false)) (.k (.fld 5 (.tmp 4))), .mk (some 75) (some (73, false)) (.k (.load [.int .i64] false (.tmp 74))), .mk (some 76) (some (73, false)) (.k (.cmp .gtr .i64 (.tmp 75) (.const (.int .i64 4)))), .mk (some 77) (some (65, true)) (.k (.pick (.tmp 73) (.const (.bool true)) (.tmp 76))), .mk (some 78) (some (65, true)) (.k (.mov (.tmp 77))), .mk (some 79) (some (78, false)) (.k (.fld 3 (.tmp 4))), .mk (some 80) (some (78, false)) (.k (.load [.int .i64] false (.tmp 79))), .mk (some 81) (some (78, false)) (.k (.cmp .lss .i64 (.tmp 80) (.const (.int .i64 0)))), .mk (some 82) (some (65, true)) (.k (.pick (.tmp 78) (.const (.bool true)) (.tmp 81))), .mk (some 83) (some (65, true)) (.k (.mov (.tmp 82))), .mk (some 84) (some (83, false)) (.k (.fld 4 (.tmp 4))), .mk (some 85) (some (83, false)) (.k (.load [.int .i64] false (.tmp 84))), .mk (some 86) (some (83, false)) (.k (.cmp .lss .i64 (.tmp 85) (.const (.int .i64 0)))), .mk (some 87) (some (65, true)) (.k (.pick (.tmp 83) (.const (.bool true)) (.tmp 86))), .mk (some 88) none (.k (.pick (.tmp 65) (.tmp 87) (.const (.bool false))))]) (.cond (.tmp 88) (.ref 2) .skip)) (.ref 8)
def T55n10 : XC := .seq (.ops [.mk (some 57) none (.k (.mov (.tmp 0))), .mk (some 58) none (.k (.fld 2 (.tmp 4))), .mk (some 59) none (.k (.load [.int .i64] false (.tmp 58))), .mk (some 60) none (.k (.mov (.tmp 3))), .mk (some 61) none (.call 71 [.tmp 57, .tmp 59, .tmp 60]), .mk (some 5) none (.k (.mov (.tmp 61)))]) (.ref 9)
def T55n11 : XC := .seq (.seq (.ops [.mk (some 34) none (.k (.fld 0 (.tmp 4))), .mk (some 35) none (.k (.load [.int .i64] false (.tmp 34))), .mk (some 36) none (.k (.cmp .eql .i64 (.tmp 35) (.const (.int .i64 2)))), .mk (some 37) none (.k (.mov (.tmp 36))), .mk (some 38) (some (37, false)) (.k (.fld 0 (.tmp 4))), .mk (some 39) (some (37, false)) (.k (.load [.int .i64] false (.tmp 38))), .mk (some 40) (some (37, false)) (.k (.cmp .eql .i64 (.tmp 39) (.const (.int .i64 3)))), .mk (some 41) none (.k (.pick (.tmp 37) (.const (.bool true)) (.tmp 40))), .mk (some 42) none (.k (.mov (.tmp 41))), .mk (some 43) (some (42, false)) (.k (.fld 0 (.tmp 4))), .mk (some 44) (some (42, false)) (.k (.load [.int .i64] false (.tmp 43))), .mk (some 45) (some (42, false)) (.k (.cmp .eql .i64 (.tmp 44) (.const (.int .i64 7)))), .mk (some 46) none (.k (.pick (.tmp 42) (.const (.bool true)) (.tmp 45))), .mk (some 47) none (.k (.mov (.tmp 46))), .mk (some 48) (some (47, false)) (.k (.fld 0 (.tmp 4))), .mk (some 49) (some (47, false)) (.k (.load [.int .i64] false (.tmp 48))), .mk (some 50) (some (47, false)) (.k (.cmp .eql .i64 (.tmp 49) (.const (.int .i64 8)))), .mk (some 51) none (.k (.pick (.tmp 47) (.const (.bool true)) (.tmp 50))), .mk (some 52) none (.k (.mov (.tmp 51))), .mk (some 53) (some (52, true)) (.k (.fld 6 (.tmp 4))), .mk (some 54) (some (52, true)) (.k (.load [.int .i64] false (.tmp 53))), .mk (some 55) (some (52, true)) (.k (.cmp .lss .i64 (.tmp 54) (.const (.int .i64 0)))), .mk (some 56) none (.k (.pick (.tmp 52) (.tmp 55) (.const (.bool false))))]) (.cond (.tmp 56) (.ref 1) .skip)) (.ref 10)
def T55n12 : XC := .seq (.seq (.ops [.mk (some 16) none (.k (.fld 0 (.tmp 4))), .mk (some 17) none (.k (.load [.int .i64] false (.tmp 16))), .mk (some 18) none (.k (.cmp .lss .i64 (.tmp 17) (.const (.int .i64 1)))), .mk (some 19) none (.k (.mov (.tmp 18))), .mk (some 20) (some (19, false)) (.k (.fld 0 (.tmp 4))), .mk (some 21) (some (19, false)) (.k (.load [.int .i64] false (.tmp 20))), .mk (some 22) (some (19, false)) (.k (.cmp .gtr .i64 (.tmp 21) (.const (.int .i64 8)))), .mk (some 23) none (.k (.pick (.tmp 19) (.const (.bool true)) (.tmp 22))), .mk (some 24) none (.k (.mov (.tmp 23))), .mk (some 25) (some (24, false)) (.k (.fld 2 (.tmp 4))), .mk (some 26) (some (24, false)) (.k (.load [.int .i64] false (.tmp 25))), .mk (some 27) (some (24, false)) (.k (.cmp .lss .i64 (.tmp 26) (.const (.int .i64 0)))), .mk (some 28) none (.k (.pick (.tmp 24) (.const (.bool true)) (.tmp 27))), .mk (some 29) none (.k (.mov (.tmp 28))), .mk (some 30) (some (29, false)) (.k (.fld 2 (.tmp 4))), .mk (some 31) (some (29, false)) (.k (.load [.int .i64] false (.tmp 30))), .mk (some 32) (some (29, false)) (.k (.cmp .geq .i64 (.tmp 31) (.const (.int .i64 4)))), .mk (some 33) none (.k (.pick (.tmp 29) (.const (.bool true)) (.tmp 32)))]) (.cond (.tmp 33) (.ref 0) .skip)) (.ref 11)
def T55n13 : XC := .ops [.mk (some 10) none (.k (.mov (.tmp 3))), .mk (some 11) none (.k (.arith .add .i64 (.tmp 10) (.const (.int .i64 1)))), .mk (some 3) none (.k (.mov (.tmp 11)))]
def T55n14 : XC := .seq (.blk 1 (.seq (.ops [.mk (some 12) none (.k (.mov (.tmp 0))), .mk (some 13) none (.k (.mov (.tmp 3))), .mk (some 14) none (.k (.idx 9 (.tmp 12) (.tmp 13))), .mk (some 15) none (.k (.load [.int .i64, .int .i64, .int .i64, .int .i64, .int .i64, .int .i64, .int .i64, .int .u64, .int .i64] true (.tmp 14))), .mk (some 4) none (.k (.alloc 53 [.int .i64 0, .int .i64 0, .int .i64 0, .int .i64 0, .int .i64 0, .int .i64 0, .int .i64 0, .int .u64 0, .int .i64 0])), .mk none none (.k (.store 9 (.tmp 4) (.tmp 15)))]) (.ref 12))) (.ref 13)
def T55n15 : XC := .seq (.seq (.ops [.mk (some 6) none (.k (.mov (.tmp 3))), .mk (some 7) none (.k (.mov (.tmp 0))), .mk (some 8) none (.k (.lenS (.tmp 7))), .mk (some 9) none (.k (.cmp .lss .i64 (.tmp 6) (.tmp 8)))]) (.cond (.tmp 9) .skip (.exit 0))) (.ref 14)
def T55n16 : XC := .seq (.ops [.mk (some 2) none (.k (.mov (.const (.bool true))))]) .ret
def T55n17 : XC := .seq (.seq (.ops [.mk (some 3) none (.k (.mov (.const (.int .i64 0))))]) (.blk 0 (.loop (.ref 15)))) (.ref 16)
def T55 : Nat → XC
 | 0 => T55n0
 | 1 => T55n1
 | 2 => T55n2
 | 3 => T55n3
 | 4 => T55n4
 | 5 => T55n5
 | 6 => T55n6
 | 7 => T55n7
 | 8 => T55n8
 | 9 => T55n9
 | 10 => T55n10
 | 11 => T55n11
 | 12 => T55n12
 | 13 => T55n13
 | 14 => T55n14
 | 15 => T55n15
 | 16 => T55n16
 | 17 => T55n17
 | _ => .skip
theorem t55n0 : T55 0 = T55n0 := rfl
theorem t55n1 : T55 1 = T55n1 := rfl
theorem t55n2 : T55 2 = T55n2 := rfl
theorem t55n3 : T55 3 = T55n3 := rfl
theorem t55n4 : T55 4 = T55n4 := rfl
theorem t55n5 : T55 5 = T55n5 := rfl
theorem t55n6 : T55 6 = T55n6 := rfl
theorem t55n7 : T55 7 = T55n7 := rfl
theorem t55n8 : T55 8 = T55n8 := rfl
theorem t55n9 : T55 9 = T55n9 := rfl
theorem t55n10 : T55 10 = T55n10 := rfl
theorem t55n11 : T55 11 = T55n11 := rfl
theorem t55n12 : T55 12 = T55n12 := rfl
theorem t55n13 : T55 13 = T55n13 := rfl
theorem t55n14 : T55 14 = T55n14 := rfl
theorem t55n15 : T55 15 = T55n15 := rfl
theorem t55n16 : T55 16 = T55n16 := rfl
theorem t55n17 : T55 17 = T55n17 := rfl
def X55 : XC := .seq (.ops [.mk (some 2) none (.k (.mov (.const (.bool false))))]) (.ref 17)
abbrev K55 : List Nat := [0, 2, 3, 4, 5, 9, 33, 56, 88, 100, 132, 145]
theorem n55 : Try.f55.ntmps = 146 := by kernel_rfl
theorem r55 : resT Try.f55.results.toList = some [2] := by kernel_rfl
theorem x55 : cmpF Try.prog Try.f55 = some (expand T55 19 X55) := by kernel_rfl
def T71n0 : XC := .cond (.tmp 28) (.ops [.mk (some 29) none (.k (.mov (.tmp 8))), .mk (some 7) none (.k (.mov (.tmp 29)))]) .skip
def T71n1 : XC := .cond (.tmp 52) (.ops [.mk (some 7) none (.k (.mov (.const (.int .i64 (-1)))))]) .skip
def T71n2 : XC := .seq (.ops [.mk (some 30) none (.k (.mov (.tmp 0))), .mk (some 31) none (.k (.mov (.tmp 8))), .mk (some 32) none (.k (.idx 9 (.tmp 30) (.tmp 31))), .mk (some 33) none (.k (.fld 2 (.tmp 32))), .mk (some 34) none (.k (.load [.int .i64] false (.tmp 33))), .mk (some 35) none (.k (.mov (.tmp 1))), .mk (some 36) none (.k (.cmp .eql .i64 (.tmp 34) (.tmp 35))), .mk (some 37) none (.k (.mov (.tmp 36))), .mk (some 38) (some (37, true)) (.k (.mov (.tmp 0))), .mk (some 39) (some (37, true)) (.k (.mov (.tmp 8))), .mk (some 40) (some (37, true)) (.k (.idx 9 (.tmp 38) (.tmp 39))), .mk (some 41) (some (37, true)) (.k (.fld 0 (.tmp 40))), .mk (some 42) (some (37, true)) (.k (.load [.int .i64] false (.tmp 41))), .mk (some 43) (some (37, true)) (.k (.cmp .eql .i64 (.tmp 42) (.const (.int .i64 5)))), .mk (some 44) (some (37, true)) (.k (.mov (.tmp 43))), .mk (some 45) (some (44, false)) (.k (.mov (.tmp 0))), .mk (some 46) (some (44, false)) (.k (.mov (.tmp 8))), .mk (some 47) (some (44, false)) (.k (.idx 9 (.tmp 45) (.tmp 46))), .mk (some 48) (some (44, false)) (.k (.fld 0 (.tmp 47))), .mk (some 49) (some (44, false)) (.k (.load [.int .i64] false (.tmp 48))), .mk (some 50) (some (44, false)) (.k (.cmp .eql .i64 (.tmp 49) (.const (.int .i64 6)))), .mk (some 51) (some (37, true)) (.k (.pick (.tmp 44) (.const (.bool true)) (.tmp 50))), .mk (some 52) none (.k (.pick (.tmp 37) (.tmp 51) (.const (.bool false))))]) (.ref 1)
def T71n3 : XC := .ops [.mk (some 12) none (.k (.mov (.tmp 8))), .mk (some 13) none (.k (.arith .add .i64 (.tmp 12) (.const (.int .i64 1)))), .mk (some 8) none (.k (.mov (.tmp 13)))]
def T71n4 : XC := .seq (.blk 1 (.seq (.seq (.ops [.mk (some 14) none (.k (.mov (.tmp 0))), .mk (some 15) none (.k (.mov (.tmp 8))), .mk (some 16) none (.k (.idx 9 (.tmp 14) (.tmp 15))), .mk (some 17) none (.k (.fld 2 (.tmp 16))), .mk (some 18) none (.k (.load [.int .i64] false (.tmp 17))), .mk (some 19) none (.k (.mov (.tmp 1))), .mk (some 20) none (.k (.cmp .eql .i64 (.tmp 18) (.tmp 19))), .mk (some 21) none (.k (.mov (.tmp 20))), .mk (some 22) (some (21, true)) (.k (.mov (.tmp 0))), .mk (some 23) (some (21, true)) (.k (.mov (.tmp 8))), .mk (some 24) (some (21, true)) (.k (.idx 9 (.tmp 22) (.tmp 23))), .mk (some 25) (some (21, true)) (.k (.fld 0 (.tmp 24))), .mk (some 26) (some (21, true)) (.k (.load [.int .i64] false (.tmp 25))), .mk (some 27) (some (21, true)) (.k (.cmp .eql .i64 (.tmp 26) (.const (.int .i64 1)))), .mk (some 28) none (.k (.pick (.tmp 21) (.tmp 27) (.const (.bool false))))]) (.ref 0)) (.ref 2))) (.ref 3)
def T71n5 : XC := .seq (.seq (.ops [.mk (some 9) none (.k (.mov (.tmp 8))), .mk (some 10) none (.k (.mov (.tmp 2))), .mk (some 11) none (.k (.cmp .lss .i64 (.tmp 9) (.tmp 10)))]) (.cond (.tmp 11) .skip (.exit 0))) (.ref 4)
def T71n6 : XC := .seq (.ops [.mk (some 53) none (.k (.mov (.tmp 7))), .mk (some 6) none (.k (.mov (.tmp 53)))]) .ret
def T71n7 : XC := .seq (.seq (.ops [.mk (some 8) none (.k (.mov (.const (.int .i64 0))))]) (.blk 0 (.loop (.ref 5)))) (.ref 6)
def T71n8 : XC := .seq (.ops [.mk (some 7) none (.k (.mov (.const (.int .i64 (-1)))))]) (.ref 7)
def T71 : Nat → XC
 | 0 => T71n0
 | 1 => T71n1
 | 2 => T71n2
 | 3 => T71n3
 | 4 => T71n4
 | 5 => T71n5
 | 6 => T71n6
 | 7 => T71n7
 | 8 => T71n8
 | _ => .skip
theorem t71n0 : T71 0 = T71n0 := rfl
theorem t71n1 : T71 1 = T71n1 := rfl
theorem t71n2 : T71 2 = T71n2 := rfl
theorem t71n3 : T71 3 = T71n3 := rfl
theorem t71n4 : T71 4 = T71n4 := rfl
theorem t71n5 : T71 5 = T71n5 := rfl
theorem t71n6 : T71 6 = T71n6 := rfl
theorem t71n7 : T71 7 = T71n7 := rfl
theorem t71n8 : T71 8 = T71n8 := rfl
def X71 : XC := .seq (.ops [.mk (some 6) none (.k (.mov (.const (.int .i64 0))))]) (.ref 8)
abbrev K71 : List Nat := [0, 1, 2, 6, 7, 8, 11, 28, 52]
theorem n71 : Try.f71.ntmps = 54 := by kernel_rfl
theorem r71 : resT Try.f71.results.toList = some [6] := by kernel_rfl
theorem x71 : cmpF Try.prog Try.f71 = some (expand T71 10 X71) := by kernel_rfl
end Go.Proofs.Ytbkpiljencaoeaa
