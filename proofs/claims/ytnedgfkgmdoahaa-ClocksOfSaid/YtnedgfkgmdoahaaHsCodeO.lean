/- Printed by program: the small code of functions, and that it is theirs. -/
import Derived.Test.YtnedgfkgmdoahaaSxStill
import Derived.Test.YtnedgfkgmdoahaaProg
import Derived.KernelRfl
set_option linter.unusedSimpArgs false
set_option linter.unusedVariables false
set_option linter.unnecessarySimpa false
namespace Go.Proofs.Ytnedgfkgmdoahaa
open Go Go.Sx
set_option maxRecDepth 100000
def T31n0 : XC := .seq (.ops [.mk (some 16) none (.k (.mov (.tmp 5))), .mk (some 2) none (.k (.mov (.const (.slice none 0 0)))), .mk (some 3) none (.k (.mov (.tmp 16)))]) .ret
def T31n1 : XC := .ops [.mk (some 23) none (.k (.mov (.tmp 6))), .mk (some 24) none (.k (.mov (.tmp 8))), .mk (some 25) none (.k (.nilc (.tmp 24))), .mk (some 26) none (.k (.fld 0 (.tmp 25))), .mk (some 27) none (.k (.load [.int .i64, .int .i64, .int .i64, .int .i64, .int .i64, .int .i64, .int .i64, .slc, .slc, .bool, .int .i64] true (.tmp 26))), .mk (some 28) none (.k (.buildS 90 1 11 [.int .i64 0, .int .i64 0, .int .i64 0, .int .i64 0, .int .i64 0, .int .i64 0, .int .i64 0, .slice none 0 0, .slice none 0 0, .bool false, .int .i64 0] [(0, .tmp 27)])), .mk (some 29) none (.k (.app 90 11 120 (.tmp 23) (.tmp 28))), .mk (some 6) none (.k (.mov (.tmp 29)))]
def T31n2 : XC := .seq (.blk 1 (.seq (.ops [.mk (some 21) none (.k (.idx 1 (.tmp 17) (.tmp 19))), .mk (some 22) none (.k (.load [.ptr] false (.tmp 21))), .mk (some 8) none (.k (.mov (.tmp 22)))]) (.ref 1))) (.ops [.mk (some 30) none (.k (.arith .add .i64 (.tmp 19) (.const (.int .i64 1)))), .mk (some 19) none (.k (.mov (.tmp 30)))])
def T31n3 : XC := .seq (.cond (.tmp 20) .skip (.exit 0)) (.ref 2)
def T31n4 : XC := .seq (.ops [.mk (some 20) none (.k (.cmp .lss .i64 (.tmp 19) (.tmp 18)))]) (.ref 3)
def T31n5 : XC := .seq (.ops [.mk (some 31) none (.k (.mov (.tmp 6))), .mk (some 2) none (.k (.mov (.tmp 31))), .mk (some 3) none (.k (.mov (.const (.int .i64 0))))]) .ret
def T31n6 : XC := .seq (.seq (.ops [.mk (some 17) none (.k (.mov (.tmp 4))), .mk (some 18) none (.k (.lenS (.tmp 17))), .mk (some 19) none (.k (.mov (.const (.int .i64 0))))]) (.blk 0 (.loop (.ref 4)))) (.ref 5)
def T31n7 : XC := .seq (.ops [.mk (some 6) none (.k (.mov (.const (.slice none 0 0))))]) (.ref 6)
def T31n8 : XC := .seq (.seq (.ops [.mk (some 14) none (.k (.mov (.tmp 5))), .mk (some 15) none (.k (.cmp .neq .i64 (.tmp 14) (.const (.int .i64 0))))]) (.cond (.tmp 15) (.ref 0) .skip)) (.ref 7)
def T31n9 : XC := .seq (.ops [.mk (some 10) none (.k (.mov (.tmp 0))), .mk (some 11) none (.call 54 [.tmp 10]), .mk (some 9) none (.k (.mov (.tmp 11))), .mk (some 12) none (.k (.ext (.tmp 9) 0)), .mk (some 13) none (.k (.ext (.tmp 9) 1)), .mk (some 4) none (.k (.mov (.tmp 12))), .mk (some 5) none (.k (.mov (.tmp 13)))]) (.ref 8)
def T31 : Nat → XC
 | 0 => T31n0
 | 1 => T31n1
 | 2 => T31n2
 | 3 => T31n3
 | 4 => T31n4
 | 5 => T31n5
 | 6 => T31n6
 | 7 => T31n7
 | 8 => T31n8
 | 9 => T31n9
 | _ => .skip
theorem t31n0 : T31 0 = T31n0 := rfl
theorem t31n1 : T31 1 = T31n1 := rfl
theorem t31n2 : T31 2 = T31n2 := rfl
theorem t31n3 : T31 3 = T31n3 := rfl
theorem t31n4 : T31 4 = T31n4 := rfl
theorem t31n5 : T31 5 = T31n5 := rfl
theorem t31n6 : T31 6 = T31n6 := rfl
theorem t31n7 : T31 7 = T31n7 := rfl
theorem t31n8 : T31 8 = T31n8 := rfl
theorem t31n9 : T31 9 = T31n9 := rfl
def X31 : XC := .seq (.ops [.mk (some 2) none (.k (.mov (.const (.slice none 0 0)))), .mk (some 3) none (.k (.mov (.const (.int .i64 0))))]) (.ref 9)
abbrev K31 : List Nat := [0, 2, 3, 4, 5, 6, 8, 15, 17, 18, 19, 20]
theorem n31 : Try.f31.ntmps = 32 := by kernel_rfl
theorem r31 : resT Try.f31.results.toList = some [2, 3] := by kernel_rfl
theorem x31 : cmpF Try.prog Try.f31 = some (expand T31 11 X31) := by kernel_rfl
def T29n0 : XC := .seq (.ops [.mk (some 17) none (.k (.mov (.tmp 5))), .mk (some 2) none (.k (.mov (.const (.slice none 0 0)))), .mk (some 3) none (.k (.mov (.tmp 17)))]) .ret
def T29n1 : XC := .seq (.ops [.mk (some 15) none (.k (.mov (.tmp 5))), .mk (some 16) none (.k (.cmp .neq .i64 (.tmp 15) (.const (.int .i64 0))))]) (.cond (.tmp 16) (.ref 0) .skip)
def T29n2 : XC := .ops [.mk (some 33) none (.k (.fld 1 (.tmp 9))), .mk none none (.k (.store 1 (.tmp 33) (.const (.int .i64 4)))), .mk (some 34) none (.k (.fld 2 (.tmp 9))), .mk none none (.k (.store 1 (.tmp 34) (.const (.int .i64 0))))]
def T29n3 : XC := .ops [.mk (some 37) none (.k (.fld 1 (.tmp 9))), .mk none none (.k (.store 1 (.tmp 37) (.const (.int .i64 3)))), .mk (some 38) none (.k (.fld 2 (.tmp 9))), .mk none none (.k (.store 1 (.tmp 38) (.const (.int .i64 0))))]
def T29n4 : XC := .cond (.tmp 39) .skip (.ops [.mk (some 41) none (.k (.cmp .eql .i64 (.tmp 30) (.const (.int .i64 7)))), .mk (some 39) none (.k (.mov (.tmp 41)))])
def T29n5 : XC := .cond (.tmp 43) .skip (.ops [.mk (some 45) none (.k (.cmp .eql .i64 (.tmp 30) (.const (.int .i64 8)))), .mk (some 43) none (.k (.mov (.tmp 45)))])
def T29n6 : XC := .cond (.tmp 43) (.ops [.mk (some 46) none (.k (.fld 1 (.tmp 9))), .mk none none (.k (.store 1 (.tmp 46) (.const (.int .i64 2))))]) (.exit 1)
def T29n7 : XC := .seq (.seq (.ops [.mk (some 44) none (.k (.cmp .eql .i64 (.tmp 30) (.const (.int .i64 3)))), .mk (some 43) none (.k (.mov (.tmp 44)))]) (.ref 5)) (.ref 6)
def T29n8 : XC := .cond (.tmp 39) (.ops [.mk (some 42) none (.k (.fld 1 (.tmp 9))), .mk none none (.k (.store 1 (.tmp 42) (.const (.int .i64 1))))]) (.ref 7)
def T29n9 : XC := .seq (.seq (.ops [.mk (some 40) none (.k (.cmp .eql .i64 (.tmp 30) (.const (.int .i64 2)))), .mk (some 39) none (.k (.mov (.tmp 40)))]) (.ref 4)) (.ref 8)
def T29n10 : XC := .seq (.ops [.mk (some 36) none (.k (.cmp .eql .i64 (.tmp 30) (.const (.int .i64 5)))), .mk (some 35) none (.k (.mov (.tmp 36)))]) (.cond (.tmp 35) (.ref 3) (.ref 9))
def T29n11 : XC := .blk 2 (.seq (.ops [.mk (some 32) none (.k (.cmp .eql .i64 (.tmp 30) (.const (.int .i64 1)))), .mk (some 31) none (.k (.mov (.tmp 32)))]) (.cond (.tmp 31) (.ref 2) (.ref 10)))
def T29n12 : XC := .ops [.mk (some 47) none (.k (.mov (.tmp 6))), .mk (some 48) none (.k (.load [.int .i64, .int .i64, .int .i64] true (.tmp 9))), .mk (some 49) none (.k (.buildS 29 1 3 [.int .i64 0, .int .i64 0, .int .i64 0] [(0, .tmp 48)])), .mk (some 50) none (.k (.app 29 3 24 (.tmp 47) (.tmp 49))), .mk (some 6) none (.k (.mov (.tmp 50)))]
def T29n13 : XC := .seq (.seq (.ops [.mk (some 29) none (.k (.fld 0 (.tmp 8))), .mk (some 30) none (.k (.load [.int .i64] false (.tmp 29)))]) (.ref 11)) (.ref 12)
def T29n14 : XC := .seq (.ops [.mk (some 24) none (.k (.fld 2 (.tmp 8))), .mk (some 25) none (.k (.load [.int .i64] false (.tmp 24))), .mk (some 26) none (.k (.fld 6 (.tmp 8))), .mk (some 27) none (.k (.load [.int .i64] false (.tmp 26))), .mk (some 28) none (.k (.build [.int .i64 0, .int .i64 0, .int .i64 0] [(0, 1, .tmp 25), (2, 1, .tmp 27)])), .mk (some 9) none (.k (.alloc 29 [.int .i64 0, .int .i64 0, .int .i64 0])), .mk none none (.k (.store 3 (.tmp 9) (.tmp 28)))]) (.ref 13)
def T29n15 : XC := .seq (.blk 1 (.seq (.ops [.mk (some 22) none (.k (.idx 9 (.tmp 18) (.tmp 20))), .mk (some 23) none (.k (.load [.int .i64, .int .i64, .int .i64, .int .i64, .int .i64, .int .i64, .int .i64, .int .u64, .int .i64] true (.tmp 22))), .mk (some 8) none (.k (.alloc 65 [.int .i64 0, .int .i64 0, .int .i64 0, .int .i64 0, .int .i64 0, .int .i64 0, .int .i64 0, .int .u64 0, .int .i64 0])), .mk none none (.k (.store 9 (.tmp 8) (.tmp 23)))]) (.ref 14))) (.ops [.mk (some 51) none (.k (.arith .add .i64 (.tmp 20) (.const (.int .i64 1)))), .mk (some 20) none (.k (.mov (.tmp 51)))])
def T29n16 : XC := .seq (.cond (.tmp 21) .skip (.exit 0)) (.ref 15)
def T29n17 : XC := .seq (.ops [.mk (some 21) none (.k (.cmp .lss .i64 (.tmp 20) (.tmp 19)))]) (.ref 16)
def T29n18 : XC := .seq (.ops [.mk (some 52) none (.k (.mov (.tmp 6))), .mk (some 2) none (.k (.mov (.tmp 52))), .mk (some 3) none (.k (.mov (.const (.int .i64 0))))]) .ret
def T29n19 : XC := .seq (.seq (.ops [.mk (some 18) none (.k (.mov (.tmp 0))), .mk (some 19) none (.k (.lenS (.tmp 18))), .mk (some 20) none (.k (.mov (.const (.int .i64 0))))]) (.blk 0 (.loop (.ref 17)))) (.ref 18)
def T29n20 : XC := .seq (.ops [.mk (some 6) none (.k (.mov (.const (.slice none 0 0))))]) (.ref 19)
def T29n21 : XC := .seq (.seq (.ops [.mk (some 11) none (.k (.mov (.tmp 0))), .mk (some 12) none (.call 31 [.tmp 11]), .mk (some 10) none (.k (.mov (.tmp 12))), .mk (some 13) none (.k (.ext (.tmp 10) 0)), .mk (some 14) none (.k (.ext (.tmp 10) 1)), .mk (some 4) none (.k (.mov (.tmp 13))), .mk (some 5) none (.k (.mov (.tmp 14)))]) (.ref 1)) (.ref 20)
def T29 : Nat → XC
 | 0 => T29n0
 | 1 => T29n1
 | 2 => T29n2
 | 3 => T29n3
 | 4 => T29n4
 | 5 => T29n5
 | 6 => T29n6
 | 7 => T29n7
 | 8 => T29n8
 | 9 => T29n9
 | 10 => T29n10
 | 11 => T29n11
 | 12 => T29n12
 | 13 => T29n13
 | 14 => T29n14
 | 15 => T29n15
 | 16 => T29n16
 | 17 => T29n17
 | 18 => T29n18
 | 19 => T29n19
 | 20 => T29n20
 | 21 => T29n21
 | _ => .skip
theorem t29n0 : T29 0 = T29n0 := rfl
theorem t29n1 : T29 1 = T29n1 := rfl
theorem t29n2 : T29 2 = T29n2 := rfl
theorem t29n3 : T29 3 = T29n3 := rfl
theorem t29n4 : T29 4 = T29n4 := rfl
theorem t29n5 : T29 5 = T29n5 := rfl
theorem t29n6 : T29 6 = T29n6 := rfl
theorem t29n7 : T29 7 = T29n7 := rfl
theorem t29n8 : T29 8 = T29n8 := rfl
theorem t29n9 : T29 9 = T29n9 := rfl
theorem t29n10 : T29 10 = T29n10 := rfl
theorem t29n11 : T29 11 = T29n11 := rfl
theorem t29n12 : T29 12 = T29n12 := rfl
theorem t29n13 : T29 13 = T29n13 := rfl
theorem t29n14 : T29 14 = T29n14 := rfl
theorem t29n15 : T29 15 = T29n15 := rfl
theorem t29n16 : T29 16 = T29n16 := rfl
theorem t29n17 : T29 17 = T29n17 := rfl
theorem t29n18 : T29 18 = T29n18 := rfl
theorem t29n19 : T29 19 = T29n19 := rfl
theorem t29n20 : T29 20 = T29n20 := rfl
theorem t29n21 : T29 21 = T29n21 := rfl
def X29 : XC := .seq (.ops [.mk (some 2) none (.k (.mov (.const (.slice none 0 0)))), .mk (some 3) none (.k (.mov (.const (.int .i64 0))))]) (.ref 21)
abbrev K29 : List Nat := [0, 2, 3, 5, 6, 8, 9, 16, 18, 19, 20, 21, 30, 31, 35, 39, 43]
theorem n29 : Try.f29.ntmps = 53 := by kernel_rfl
theorem r29 : resT Try.f29.results.toList = some [2, 3] := by kernel_rfl
theorem x29 : cmpF Try.prog Try.f29 = some (expand T29 23 X29) := by kernel_rfl
def T34n0 : XC := .seq (.ops [.mk (some 2) none (.k (.mov (.const (.bool false))))]) .ret
def T34n1 : XC := .seq (.ops [.mk (some 2) none (.k (.mov (.const (.bool false))))]) .ret
def T34n2 : XC := .seq (.ops [.mk (some 2) none (.k (.mov (.const (.bool false))))]) .ret
def T34n3 : XC := .seq (.ops [.mk (some 2) none (.k (.mov (.const (.bool false))))]) .ret
def T34n4 : XC := .seq (.ops [.mk (some 2) none (.k (.mov (.const (.bool false))))]) .ret
def T34n5 : XC := .seq (.ops [.mk (some 2) none (.k (.mov (.const (.bool false))))]) .ret
def T34n6 : XC := .seq (.ops [.mk (some 133) none (.k (.fld 0 (.tmp 4))), .mk (some 134) none (.k (.load [.int .i64] false (.tmp 133))), .mk (some 135) none (.k (.cmp .eql .i64 (.tmp 134) (.const (.int .i64 6)))), .mk (some 136) none (.k (.mov (.tmp 135))), .mk (some 137) (some (136, true)) (.k (.fld 8 (.tmp 4))), .mk (some 138) (some (136, true)) (.k (.load [.int .i64] false (.tmp 137))), .mk (some 139) (some (136, true)) (.k (.cmp .lss .i64 (.tmp 138) (.const (.int .i64 1)))), .mk (some 140) (some (136, true)) (.k (.mov (.tmp 139))), .mk (some 141) (some (140, false)) (.k (.fld 8 (.tmp 4))), .mk (some 142) (some (140, false)) (.k (.load [.int .i64] false (.tmp 141))), .mk (some 143) (some (140, false)) (.k (.cmp .gtr .i64 (.tmp 142) (.const (.int .i64 8)))), .mk (some 144) (some (136, true)) (.k (.pick (.tmp 140) (.const (.bool true)) (.tmp 143))), .mk (some 145) none (.k (.pick (.tmp 136) (.tmp 144) (.const (.bool false))))]) (.cond (.tmp 145) (.ref 5) .skip)
def T34n7 : XC := .seq (.seq (.ops [.mk (some 101) none (.k (.fld 0 (.tmp 4))), .mk (some 102) none (.k (.load [.int .i64] false (.tmp 101))), .mk (some 103) none (.k (.cmp .geq .i64 (.tmp 102) (.const (.int .i64 2)))), .mk (some 104) none (.k (.mov (.tmp 103))), .mk (some 105) (some (104, true)) (.k (.fld 0 (.tmp 4))), .mk (some 106) (some (104, true)) (.k (.load [.int .i64] false (.tmp 105))), .mk (some 107) (some (104, true)) (.k (.cmp .leq .i64 (.tmp 106) (.const (.int .i64 6)))), .mk (some 108) none (.k (.pick (.tmp 104) (.tmp 107) (.const (.bool false)))), .mk (some 109) none (.k (.mov (.tmp 108))), .mk (some 110) (some (109, true)) (.k (.mov (.tmp 5))), .mk (some 111) (some (109, true)) (.k (.cmp .lss .i64 (.tmp 110) (.const (.int .i64 0)))), .mk (some 112) (some (109, true)) (.k (.mov (.tmp 111))), .mk (some 113) (some (112, false)) (.k (.mov (.tmp 0))), .mk (some 114) (some (112, false)) (.k (.mov (.tmp 5))), .mk (some 115) (some (112, false)) (.k (.idx 9 (.tmp 113) (.tmp 114))), .mk (some 116) (some (112, false)) (.k (.fld 3 (.tmp 115))), .mk (some 117) (some (112, false)) (.k (.load [.int .i64] false (.tmp 116))), .mk (some 118) (some (112, false)) (.k (.fld 3 (.tmp 4))), .mk (some 119) (some (112, false)) (.k (.load [.int .i64] false (.tmp 118))), .mk (some 120) (some (112, false)) (.k (.cmp .neq .i64 (.tmp 117) (.tmp 119))), .mk (some 121) (some (109, true)) (.k (.pick (.tmp 112) (.const (.bool true)) (.tmp 120))), .mk (some 122) (some (109, true)) (.k (.mov (.tmp 121))), .mk (some 123) (some (122, false)) (.k (.mov (.tmp 0))), .mk (some 124) (some (122, false)) (.k (.mov (.tmp 5))), .mk (some 125) (some (122, false)) (.k (.idx 9 (.tmp 123) (.tmp 124))), .mk (some 126) (some (122, false)) (.k (.fld 4 (.tmp 125))), .mk (some 127) (some (122, false)) (.k (.load [.int .i64] false (.tmp 126))), .mk (some 128) (some (122, false)) (.k (.fld 4 (.tmp 4))), .mk (some 129) (some (122, false)) (.k (.load [.int .i64] false (.tmp 128))), .mk (some 130) (some (122, false)) (.k (.cmp .neq .i64 (.tmp 127) (.tmp 129))), .mk (some 131) (some (109, true)) (.k (.pick (.tmp 122) (.const (.bool true)) (.tmp 130))), .mk (some 132) none (.k (.pick (.tmp 109) (.tmp 131) (.const (.bool false))))]) (.cond (.tmp 132) (.ref 4) .skip)) (.ref 6)
def T34n8 : XC := .seq (.seq (.ops [.mk (some 89) none (.k (.fld 0 (.tmp 4))), .mk (some 90) none (.k (.load [.int .i64] false (.tmp 89))), .mk (some 91) none (.k (.cmp .eql .i64 (.tmp 90) (.const (.int .i64 7)))), .mk (some 92) none (.k (.mov (.tmp 91))), .mk (some 93) (some (92, false)) (.k (.fld 0 (.tmp 4))), .mk (some 94) (some (92, false)) (.k (.load [.int .i64] false (.tmp 93))), .mk (some 95) (some (92, false)) (.k (.cmp .eql .i64 (.tmp 94) (.const (.int .i64 8)))), .mk (some 96) none (.k (.pick (.tmp 92) (.const (.bool true)) (.tmp 95))), .mk (some 97) none (.k (.mov (.tmp 96))), .mk (some 98) (some (97, true)) (.k (.mov (.tmp 5))), .mk (some 99) (some (97, true)) (.k (.cmp .geq .i64 (.tmp 98) (.const (.int .i64 0)))), .mk (some 100) none (.k (.pick (.tmp 97) (.tmp 99) (.const (.bool false))))]) (.cond (.tmp 100) (.ref 3) .skip)) (.ref 7)
def T34n9 : XC := .seq (.seq (.ops [.mk (some 62) none (.k (.fld 0 (.tmp 4))), .mk (some 63) none (.k (.load [.int .i64] false (.tmp 62))), .mk (some 64) none (.k (.cmp .eql .i64 (.tmp 63) (.const (.int .i64 1)))), .mk (some 65) none (.k (.mov (.tmp 64))), .mk (some 66) (some (65, true)) (.k (.mov (.tmp 5))), .mk (some 67) (some (65, true)) (.k (.cmp .geq .i64 (.tmp 66) (.const (.int .i64 0)))), .mk (some 68) (some (65, true)) (.k (.mov (.tmp 67))), .mk (some 69) (some (68, false)) (.k (.fld 5 (.tmp 4))), .mk (some 70) (some (68, false)) (.k (.load [.int .i64] false (.tmp 69))), .mk (some 71) (some (68, false)) (.k (.cmp .lss .i64 (.tmp 70) (.const (.int .i64 1)))), .mk (some 72) (some (65, true)) (.k (.pick (.tmp 68) (.const (.bool true)) (.tmp 71))), .mk (some 73) (some (65, true)) (.k (.mov (.tmp 72))), .mk (some 74) (some (73, false)) (.k (.fld 5 (.tmp 4))), .mk (some 75) (some (73, false)) (.k (.load [.int .i64] false (.tmp 74))), .mk (some 76) (some (73, false)) (.k (.cmp .gtr .i64 (.tmp 75) (.const (.int .i64 4)))), .mk (some 77) (some (65, true)) (.k (.pick (.tmp 73) (.const (.bool true)) (.tmp 76))), .mk (some 78) (some (65, true)) (.k (.mov (.tmp 77))), .mk (some 79) (some (78, false)) (.k (.fld 3 (.tmp 4))), .mk (some 80) (some (78, false)) (.k (.load [.int .i64] false (.tmp 79))), .mk (some 81) (some (78, false)) (.k (.cmp .lss .i64 (.tmp 80) (.const (.int .i64 0)))), .mk (some 82) (some (65, true)) (.k (.pick (.tmp 78) (.const (.bool true)) (.tmp 81))), .mk (some 83) (some (65, true)) (.k (.mov (.tmp 82))), .mk (some 84) (some (83, false)) (.k (.fld 4 (.tmp 4))), .mk (some 85) (some (83, false)) (.k (.load [.int .i64] false (.tmp 84))), .mk (some 86) (some (83, false)) (.k (.cmp .lss .i64 (.tmp 85) (.const (.int .i64 0)))), .mk (some 87) (some (65, true)) (.k (.pick (.tmp 83) (.const (.bool true)) (.tmp 86))), .mk (some 88) none (.k (.pick (.tmp 65) (.tmp 87) (.const (.bool false))))]) (.cond (.tmp 88) (.ref 2) .skip)) (.ref 8)
def T34n10 : XC := .seq (.ops [.mk (some 57) none (.k (.mov (.tmp 0))), .mk (some 58) none (.k (.fld 2 (.tmp 4))), .mk (some 59) none (.k (.load [.int .i64] false (.tmp 58))), .mk (some 60) none (.k (.mov (.tmp 3))), .mk (some 61) none (.call 57 [.tmp 57, .tmp 59, .tmp 60]), .mk (some 5) none (.k (.mov (.tmp 61)))]) (.ref 9)
def T34n11 : XC := .seq (.seq (.ops [.mk (some 34) none (.k (.fld 0 (.tmp 4))), .mk (some 35) none (.k (.load [.int .i64] false (.tmp 34))), .mk (some 36) none (.k (.cmp .eql .i64 (.tmp 35) (.const (.int .i64 2)))), .mk (some 37) none (.k (.mov (.tmp 36))), .mk (some 38) (some (37, false)) (.k (.fld 0 (.tmp 4))), .mk (some 39) (some (37, false)) (.k (.load [.int .i64] false (.tmp 38))), .mk (some 40) (some (37, false)) (.k (.cmp .eql .i64 (.tmp 39) (.const (.int .i64 3)))), .mk (some 41) none (.k (.pick (.tmp 37) (.const (.bool true)) (.tmp 40))), .mk (some 42) none (.k (.mov (.tmp 41))), .mk (some 43) (some (42, false)) (.k (.fld 0 (.tmp 4))), .mk (some 44) (some (42, false)) (.k (.load [.int .i64] false (.tmp 43))), .mk (some 45) (some (42, false)) (.k (.cmp .eql .i64 (.tmp 44) (.const (.int .i64 7)))), .mk (some 46) none (.k (.pick (.tmp 42) (.const (.bool true)) (.tmp 45))), .mk (some 47) none (.k (.mov (.tmp 46))), .mk (some 48) (some (47, false)) (.k (.fld 0 (.tmp 4))), .mk (some 49) (some (47, false)) (.k (.load [.int .i64] false (.tmp 48))), .mk (some 50) (some (47, false)) (.k (.cmp .eql .i64 (.tmp 49) (.const (.int .i64 8)))), .mk (some 51) none (.k (.pick (.tmp 47) (.const (.bool true)) (.tmp 50))), .mk (some 52) none (.k (.mov (.tmp 51))), .mk (some 53) (some (52, true)) (.k (.fld 6 (.tmp 4))), .mk (some 54) (some (52, true)) (.k (.load [.int .i64] false (.tmp 53))), .mk (some 55) (some (52, true)) (.k (.cmp .lss .i64 (.tmp 54) (.const (.int .i64 0)))), .mk (some 56) none (.k (.pick (.tmp 52) (.tmp 55) (.const (.bool false))))]) (.cond (.tmp 56) (.ref 1) .skip)) (.ref 10)
def T34n12 : XC := .seq (.seq (.ops [.mk (some 16) none (.k (.fld 0 (.tmp 4))), .mk (some 17) none (.k (.load [.int .i64] false (.tmp 16))), .mk (some 18) none (.k (.cmp .lss .i64 (.tmp 17) (.const (.int .i64 1)))), .mk (some 19) none (.k (.mov (.tmp 18))), .mk (some 20) (some (19, false)) (.k (.fld 0 (.tmp 4))), .mk (some 21) (some (19, false)) (.k (.load [.int .i64] false (.tmp 20))), .mk (some 22) (some (19, false)) (.k (.cmp .gtr .i64 (.tmp 21) (.const (.int .i64 8)))), .mk (some 23) none (.k (.pick (.tmp 19) (.const (.bool true)) (.tmp 22))), .mk (some 24) none (.k (.mov (.tmp 23))), .mk (some 25) (some (24, false)) (.k (.fld 2 (.tmp 4))), .mk (some 26) (some (24, false)) (.k (.load [.int .i64] false (.tmp 25))), .mk (some 27) (some (24, false)) (.k (.cmp .lss .i64 (.tmp 26) (.const (.int .i64 0)))), .mk (some 28) none (.k (.pick (.tmp 24) (.const (.bool true)) (.tmp 27))), .mk (some 29) none (.k (.mov (.tmp 28))), .mk (some 30) (some (29, false)) (.k (.fld 2 (.tmp 4))), .mk (some 31) (some (29, false)) (.k (.load [.int .i64] false (.tmp 30))), .mk (some 32) (some (29, false)) (.k (.cmp .geq .i64 (.tmp 31) (.const (.int .i64 4)))), .mk (some 33) none (.k (.pick (.tmp 29) (.const (.bool true)) (.tmp 32)))]) (.cond (.tmp 33) (.ref 0) .skip)) (.ref 11)
def T34n13 : XC := .ops [.mk (some 10) none (.k (.mov (.tmp 3))), .mk (some 11) none (.k (.arith .add .i64 (.tmp 10) (.const (.int .i64 1)))), .mk (some 3) none (.k (.mov (.tmp 11)))]
def T34n14 : XC := .seq (.blk 1 (.seq (.ops [.mk (some 12) none (.k (.mov (.tmp 0))), .mk (some 13) none (.k (.mov (.tmp 3))), .mk (some 14) none (.k (.idx 9 (.tmp 12) (.tmp 13))), .mk (some 15) none (.k (.load [.int .i64, .int .i64, .int .i64, .int .i64, .int .i64, .int .i64, .int .i64, .int .u64, .int .i64] true (.tmp 14))), .mk (some 4) none (.k (.alloc 65 [.int .i64 0, .int .i64 0, .int .i64 0, .int .i64 0, .int .i64 0, .int .i64 0, .int .i64 0, .int .u64 0, .int .i64 0])), .mk none none (.k (.store 9 (.tmp 4) (.tmp 15)))]) (.ref 12))) (.ref 13)
def T34n15 : XC := .seq (.seq (.ops [.mk (some 6) none (.k (.mov (.tmp 3))), .mk (some 7) none (.k (.mov (.tmp 0))), .mk (some 8) none (.k (.lenS (.tmp 7))), .mk (some 9) none (.k (.cmp .lss .i64 (.tmp 6) (.tmp 8)))]) (.cond (.tmp 9) .skip (.exit 0))) (.ref 14)
def T34n16 : XC := .seq (.ops [.mk (some 2) none (.k (.mov (.const (.bool true))))]) .ret
def T34n17 : XC := .seq (.seq (.ops [.mk (some 3) none (.k (.mov (.const (.int .i64 0))))]) (.blk 0 (.loop (.ref 15)))) (.ref 16)
def T34 : Nat → XC
 | 0 => T34n0
 | 1 => T34n1
 | 2 => T34n2
 | 3 => T34n3
 | 4 => T34n4
 | 5 => T34n5
 | 6 => T34n6
 | 7 => T34n7
 | 8 => T34n8
 | 9 => T34n9
 | 10 => T34n10
 | 11 => T34n11
 | 12 => T34n12
 | 13 => T34n13
 | 14 => T34n14
 | 15 => T34n15
 | 16 => T34n16
 | 17 => T34n17
 | _ => .skip
theorem t34n0 : T34 0 = T34n0 := rfl
theorem t34n1 : T34 1 = T34n1 := rfl
theorem t34n2 : T34 2 = T34n2 := rfl
theorem t34n3 : T34 3 = T34n3 := rfl
theorem t34n4 : T34 4 = T34n4 := rfl
theorem t34n5 : T34 5 = T34n5 := rfl
theorem t34n6 : T34 6 = T34n6 := rfl
theorem t34n7 : T34 7 = T34n7 := rfl
theorem t34n8 : T34 8 = T34n8 := rfl
theorem t34n9 : T34 9 = T34n9 := rfl
theorem t34n10 : T34 10 = T34n10 := rfl
theorem t34n11 : T34 11 = T34n11 := rfl
theorem t34n12 : T34 12 = T34n12 := rfl
theorem t34n13 : T34 13 = T34n13 := rfl
theorem t34n14 : T34 14 = T34n14 := rfl
theorem t34n15 : T34 15 = T34n15 := rfl
theorem t34n16 : T34 16 = T34n16 := rfl
theorem t34n17 : T34 17 = T34n17 := rfl
def X34 : XC := .seq (.ops [.mk (some 2) none (.k (.mov (.const (.bool false))))]) (.ref 17)
abbrev K34 : List Nat := [0, 2, 3, 4, 5, 9, 33, 56, 88, 100, 132, 145]
theorem n34 : Try.f34.ntmps = 146 := by kernel_rfl
theorem r34 : resT Try.f34.results.toList = some [2] := by kernel_rfl
theorem x34 : cmpF Try.prog Try.f34 = some (expand T34 19 X34) := by kernel_rfl
def T57n0 : XC := .cond (.tmp 28) (.ops [.mk (some 29) none (.k (.mov (.tmp 8))), .mk (some 7) none (.k (.mov (.tmp 29)))]) .skip
def T57n1 : XC := .cond (.tmp 52) (.ops [.mk (some 7) none (.k (.mov (.const (.int .i64 (-1)))))]) .skip
def T57n2 : XC := .seq (.ops [.mk (some 30) none (.k (.mov (.tmp 0))), .mk (some 31) none (.k (.mov (.tmp 8))), .mk (some 32) none (.k (.idx 9 (.tmp 30) (.tmp 31))), .mk (some 33) none (.k (.fld 2 (.tmp 32))), .mk (some 34) none (.k (.load [.int .i64] false (.tmp 33))), .mk (some 35) none (.k (.mov (.tmp 1))), .mk (some 36) none (.k (.cmp .eql .i64 (.tmp 34) (.tmp 35))), .mk (some 37) none (.k (.mov (.tmp 36))), .mk (some 38) (some (37, true)) (.k (.mov (.tmp 0))), .mk (some 39) (some (37, true)) (.k (.mov (.tmp 8))), .mk (some 40) (some (37, true)) (.k (.idx 9 (.tmp 38) (.tmp 39))), .mk (some 41) (some (37, true)) (.k (.fld 0 (.tmp 40))), .mk (some 42) (some (37, true)) (.k (.load [.int .i64] false (.tmp 41))), .mk (some 43) (some (37, true)) (.k (.cmp .eql .i64 (.tmp 42) (.const (.int .i64 5)))), .mk (some 44) (some (37, true)) (.k (.mov (.tmp 43))), .mk (some 45) (some (44, false)) (.k (.mov (.tmp 0))), .mk (some 46) (some (44, false)) (.k (.mov (.tmp 8))), .mk (some 47) (some (44, false)) (.k (.idx 9 (.tmp 45) (.tmp 46))), .mk (some 48) (some (44, false)) (.k (.fld 0 (.tmp 47))), .mk (some 49) (some (44, false)) (.k (.load [.int .i64] false (.tmp 48))), .mk (some 50) (some (44, false)) (.k (.cmp .eql .i64 (.tmp 49) (.const (.int .i64 6)))), .mk (some 51) (some (37, true)) (.k (.pick (.tmp 44) (.const (.bool true)) (.tmp 50))), .mk (some 52) none (.k (.pick (.tmp 37) (.tmp 51) (.const (.bool false))))]) (.ref 1)
def T57n3 : XC := .ops [.mk (some 12) none (.k (.mov (.tmp 8))), .mk (some 13) none (.k (.arith .add .i64 (.tmp 12) (.const (.int .i64 1)))), .mk (some 8) none (.k (.mov (.tmp 13)))]
def T57n4 : XC := .seq (.blk 1 (.seq (.seq (.ops [.mk (some 14) none (.k (.mov (.tmp 0))), .mk (some 15) none (.k (.mov (.tmp 8))), .mk (some 16) none (.k (.idx 9 (.tmp 14) (.tmp 15))), .mk (some 17) none (.k (.fld 2 (.tmp 16))), .mk (some 18) none (.k (.load [.int .i64] false (.tmp 17))), .mk (some 19) none (.k (.mov (.tmp 1))), .mk (some 20) none (.k (.cmp .eql .i64 (.tmp 18) (.tmp 19))), .mk (some 21) none (.k (.mov (.tmp 20))), .mk (some 22) (some (21, true)) (.k (.mov (.tmp 0))), .mk (some 23) (some (21, true)) (.k (.mov (.tmp 8))), .mk (some 24) (some (21, true)) (.k (.idx 9 (.tmp 22) (.tmp 23))), .mk (some 25) (some (21, true)) (.k (.fld 0 (.tmp 24))), .mk (some 26) (some (21, true)) (.k (.load [.int .i64] false (.tmp 25))), .mk (some 27) (some (21, true)) (.k (.cmp .eql .i64 (.tmp 26) (.const (.int .i64 1)))), .mk (some 28) none (.k (.pick (.tmp 21) (.tmp 27) (.const (.bool false))))]) (.ref 0)) (.ref 2))) (.ref 3)
def T57n5 : XC := .seq (.seq (.ops [.mk (some 9) none (.k (.mov (.tmp 8))), .mk (some 10) none (.k (.mov (.tmp 2))), .mk (some 11) none (.k (.cmp .lss .i64 (.tmp 9) (.tmp 10)))]) (.cond (.tmp 11) .skip (.exit 0))) (.ref 4)
def T57n6 : XC := .seq (.ops [.mk (some 53) none (.k (.mov (.tmp 7))), .mk (some 6) none (.k (.mov (.tmp 53)))]) .ret
def T57n7 : XC := .seq (.seq (.ops [.mk (some 8) none (.k (.mov (.const (.int .i64 0))))]) (.blk 0 (.loop (.ref 5)))) (.ref 6)
def T57n8 : XC := .seq (.ops [.mk (some 7) none (.k (.mov (.const (.int .i64 (-1)))))]) (.ref 7)
def T57 : Nat → XC
 | 0 => T57n0
 | 1 => T57n1
 | 2 => T57n2
 | 3 => T57n3
 | 4 => T57n4
 | 5 => T57n5
 | 6 => T57n6
 | 7 => T57n7
 | 8 => T57n8
 | _ => .skip
theorem t57n0 : T57 0 = T57n0 := rfl
theorem t57n1 : T57 1 = T57n1 := rfl
theorem t57n2 : T57 2 = T57n2 := rfl
theorem t57n3 : T57 3 = T57n3 := rfl
theorem t57n4 : T57 4 = T57n4 := rfl
theorem t57n5 : T57 5 = T57n5 := rfl
theorem t57n6 : T57 6 = T57n6 := rfl
theorem t57n7 : T57 7 = T57n7 := rfl
theorem t57n8 : T57 8 = T57n8 := rfl
def X57 : XC := .seq (.ops [.mk (some 6) none (.k (.mov (.const (.int .i64 0))))]) (.ref 8)
abbrev K57 : List Nat := [0, 1, 2, 6, 7, 8, 11, 28, 52]
theorem n57 : Try.f57.ntmps = 54 := by kernel_rfl
theorem r57 : resT Try.f57.results.toList = some [6] := by kernel_rfl
theorem x57 : cmpF Try.prog Try.f57 = some (expand T57 10 X57) := by kernel_rfl
def T30n0 : XC := .seq (.ops [.mk (some 2) none (.k (.mov (.const (.slice none 0 0)))), .mk (some 3) none (.k (.mov (.const (.int .i64 120))))]) .ret
def T30n1 : XC := .ops [.mk (some 30) none (.k (.mov (.tmp 5))), .mk (some 31) none (.k (.mov (.tmp 7))), .mk (some 32) none (.k (.build [.int .i64 0, .int .i64 0, .int .i64 0] [(0, 1, .tmp 31), (1, 1, .const (.int .i64 4))])), .mk (some 33) none (.k (.buildS 29 1 3 [.int .i64 0, .int .i64 0, .int .i64 0] [(0, .tmp 32)])), .mk (some 34) none (.k (.app 29 3 24 (.tmp 30) (.tmp 33))), .mk (some 5) none (.k (.mov (.tmp 34)))]
def T30n2 : XC := .ops [.mk (some 37) none (.k (.mov (.tmp 5))), .mk (some 38) none (.k (.mov (.tmp 7))), .mk (some 39) none (.k (.build [.int .i64 0, .int .i64 0, .int .i64 0] [(0, 1, .tmp 38), (1, 1, .const (.int .i64 3))])), .mk (some 40) none (.k (.buildS 29 1 3 [.int .i64 0, .int .i64 0, .int .i64 0] [(0, .tmp 39)])), .mk (some 41) none (.k (.app 29 3 24 (.tmp 37) (.tmp 40))), .mk (some 5) none (.k (.mov (.tmp 41)))]
def T30n3 : XC := .cond (.tmp 42) .skip (.ops [.mk (some 44) none (.k (.cmp .eql .i64 (.tmp 27) (.const (.int .i64 7)))), .mk (some 42) none (.k (.mov (.tmp 44)))])
def T30n4 : XC := .ops [.mk (some 45) none (.k (.mov (.tmp 5))), .mk (some 46) none (.k (.mov (.tmp 7))), .mk (some 47) none (.k (.mov (.tmp 0))), .mk (some 48) none (.k (.mov (.tmp 6))), .mk (some 49) none (.k (.idx 9 (.tmp 47) (.tmp 48))), .mk (some 50) none (.k (.fld 6 (.tmp 49))), .mk (some 51) none (.k (.load [.int .i64] false (.tmp 50))), .mk (some 52) none (.k (.build [.int .i64 0, .int .i64 0, .int .i64 0] [(0, 1, .tmp 46), (1, 1, .const (.int .i64 1)), (2, 1, .tmp 51)])), .mk (some 53) none (.k (.buildS 29 1 3 [.int .i64 0, .int .i64 0, .int .i64 0] [(0, .tmp 52)])), .mk (some 54) none (.k (.app 29 3 24 (.tmp 45) (.tmp 53))), .mk (some 5) none (.k (.mov (.tmp 54)))]
def T30n5 : XC := .cond (.tmp 55) .skip (.ops [.mk (some 57) none (.k (.cmp .eql .i64 (.tmp 27) (.const (.int .i64 8)))), .mk (some 55) none (.k (.mov (.tmp 57)))])
def T30n6 : XC := .ops [.mk (some 58) none (.k (.mov (.tmp 5))), .mk (some 59) none (.k (.mov (.tmp 7))), .mk (some 60) none (.k (.mov (.tmp 0))), .mk (some 61) none (.k (.mov (.tmp 6))), .mk (some 62) none (.k (.idx 9 (.tmp 60) (.tmp 61))), .mk (some 63) none (.k (.fld 6 (.tmp 62))), .mk (some 64) none (.k (.load [.int .i64] false (.tmp 63))), .mk (some 65) none (.k (.build [.int .i64 0, .int .i64 0, .int .i64 0] [(0, 1, .tmp 59), (1, 1, .const (.int .i64 2)), (2, 1, .tmp 64)])), .mk (some 66) none (.k (.buildS 29 1 3 [.int .i64 0, .int .i64 0, .int .i64 0] [(0, .tmp 65)])), .mk (some 67) none (.k (.app 29 3 24 (.tmp 58) (.tmp 66))), .mk (some 5) none (.k (.mov (.tmp 67)))]
def T30n7 : XC := .seq (.seq (.ops [.mk (some 56) none (.k (.cmp .eql .i64 (.tmp 27) (.const (.int .i64 3)))), .mk (some 55) none (.k (.mov (.tmp 56)))]) (.ref 5)) (.cond (.tmp 55) (.ref 6) .skip)
def T30n8 : XC := .seq (.seq (.ops [.mk (some 43) none (.k (.cmp .eql .i64 (.tmp 27) (.const (.int .i64 2)))), .mk (some 42) none (.k (.mov (.tmp 43)))]) (.ref 3)) (.cond (.tmp 42) (.ref 4) (.ref 7))
def T30n9 : XC := .seq (.ops [.mk (some 36) none (.k (.cmp .eql .i64 (.tmp 27) (.const (.int .i64 5)))), .mk (some 35) none (.k (.mov (.tmp 36)))]) (.cond (.tmp 35) (.ref 2) (.ref 8))
def T30n10 : XC := .blk 2 (.seq (.ops [.mk (some 29) none (.k (.cmp .eql .i64 (.tmp 27) (.const (.int .i64 1)))), .mk (some 28) none (.k (.mov (.tmp 29)))]) (.cond (.tmp 28) (.ref 1) (.ref 9)))
def T30n11 : XC := .seq (.ops [.mk (some 23) none (.k (.mov (.tmp 0))), .mk (some 24) none (.k (.mov (.tmp 6))), .mk (some 25) none (.k (.idx 9 (.tmp 23) (.tmp 24))), .mk (some 26) none (.k (.fld 0 (.tmp 25))), .mk (some 27) none (.k (.load [.int .i64] false (.tmp 26)))]) (.ref 10)
def T30n12 : XC := .ops [.mk (some 16) none (.k (.mov (.tmp 6))), .mk (some 17) none (.k (.arith .add .i64 (.tmp 16) (.const (.int .i64 1)))), .mk (some 6) none (.k (.mov (.tmp 17)))]
def T30n13 : XC := .seq (.blk 1 (.seq (.ops [.mk (some 18) none (.k (.mov (.tmp 0))), .mk (some 19) none (.k (.mov (.tmp 6))), .mk (some 20) none (.k (.idx 9 (.tmp 18) (.tmp 19))), .mk (some 21) none (.k (.fld 2 (.tmp 20))), .mk (some 22) none (.k (.load [.int .i64] false (.tmp 21))), .mk (some 7) none (.k (.mov (.tmp 22)))]) (.ref 11))) (.ref 12)
def T30n14 : XC := .seq (.seq (.ops [.mk (some 12) none (.k (.mov (.tmp 6))), .mk (some 13) none (.k (.mov (.tmp 0))), .mk (some 14) none (.k (.lenS (.tmp 13))), .mk (some 15) none (.k (.cmp .lss .i64 (.tmp 12) (.tmp 14)))]) (.cond (.tmp 15) .skip (.exit 0))) (.ref 13)
def T30n15 : XC := .seq (.ops [.mk (some 68) none (.k (.mov (.tmp 5))), .mk (some 2) none (.k (.mov (.tmp 68))), .mk (some 3) none (.k (.mov (.const (.int .i64 0))))]) .ret
def T30n16 : XC := .seq (.seq (.ops [.mk (some 6) none (.k (.mov (.const (.int .i64 0))))]) (.blk 0 (.loop (.ref 14)))) (.ref 15)
def T30n17 : XC := .seq (.ops [.mk (some 5) none (.k (.mov (.const (.slice none 0 0))))]) (.ref 16)
def T30n18 : XC := .seq (.seq (.ops [.mk (some 10) none (.k (.mov (.tmp 4))), .mk (some 11) none (.k (.not (.tmp 10)))]) (.cond (.tmp 11) (.ref 0) .skip)) (.ref 17)
def T30n19 : XC := .seq (.ops [.mk (some 8) none (.k (.mov (.tmp 0))), .mk (some 9) none (.call 34 [.tmp 8]), .mk (some 4) none (.k (.mov (.tmp 9)))]) (.ref 18)
def T30 : Nat → XC
 | 0 => T30n0
 | 1 => T30n1
 | 2 => T30n2
 | 3 => T30n3
 | 4 => T30n4
 | 5 => T30n5
 | 6 => T30n6
 | 7 => T30n7
 | 8 => T30n8
 | 9 => T30n9
 | 10 => T30n10
 | 11 => T30n11
 | 12 => T30n12
 | 13 => T30n13
 | 14 => T30n14
 | 15 => T30n15
 | 16 => T30n16
 | 17 => T30n17
 | 18 => T30n18
 | 19 => T30n19
 | _ => .skip
theorem t30n0 : T30 0 = T30n0 := rfl
theorem t30n1 : T30 1 = T30n1 := rfl
theorem t30n2 : T30 2 = T30n2 := rfl
theorem t30n3 : T30 3 = T30n3 := rfl
theorem t30n4 : T30 4 = T30n4 := rfl
theorem t30n5 : T30 5 = T30n5 := rfl
theorem t30n6 : T30 6 = T30n6 := rfl
theorem t30n7 : T30 7 = T30n7 := rfl
theorem t30n8 : T30 8 = T30n8 := rfl
theorem t30n9 : T30 9 = T30n9 := rfl
theorem t30n10 : T30 10 = T30n10 := rfl
theorem t30n11 : T30 11 = T30n11 := rfl
theorem t30n12 : T30 12 = T30n12 := rfl
theorem t30n13 : T30 13 = T30n13 := rfl
theorem t30n14 : T30 14 = T30n14 := rfl
theorem t30n15 : T30 15 = T30n15 := rfl
theorem t30n16 : T30 16 = T30n16 := rfl
theorem t30n17 : T30 17 = T30n17 := rfl
theorem t30n18 : T30 18 = T30n18 := rfl
theorem t30n19 : T30 19 = T30n19 := rfl
def X30 : XC := .seq (.ops [.mk (some 2) none (.k (.mov (.const (.slice none 0 0)))), .mk (some 3) none (.k (.mov (.const (.int .i64 0))))]) (.ref 19)
abbrev K30 : List Nat := [0, 2, 3, 4, 5, 6, 7, 11, 15, 27, 28, 35, 42, 55]
theorem n30 : Try.f30.ntmps = 69 := by kernel_rfl
theorem r30 : resT Try.f30.results.toList = some [2, 3] := by kernel_rfl
theorem x30 : cmpF Try.prog Try.f30 = some (expand T30 21 X30) := by kernel_rfl
def T27n0 : XC := .seq (.ops [.mk (some 4) none (.k (.mov (.const (.bool false))))]) .ret
def T27n1 : XC := .seq (.ops [.mk (some 4) none (.k (.mov (.const (.bool false))))]) .ret
def T27n2 : XC := .ops [.mk (some 15) none (.k (.mov (.tmp 5))), .mk (some 16) none (.k (.arith .add .i64 (.tmp 15) (.const (.int .i64 1)))), .mk (some 5) none (.k (.mov (.tmp 16)))]
def T27n3 : XC := .seq (.blk 1 (.seq (.ops [.mk (some 17) none (.k (.mov (.tmp 0))), .mk (some 18) none (.k (.mov (.tmp 5))), .mk (some 19) none (.k (.idx 3 (.tmp 17) (.tmp 18))), .mk (some 20) none (.k (.load [.int .i64, .int .i64, .int .i64] true (.tmp 19))), .mk (some 21) none (.k (.mov (.tmp 1))), .mk (some 22) none (.k (.mov (.tmp 5))), .mk (some 23) none (.k (.idx 3 (.tmp 21) (.tmp 22))), .mk (some 24) none (.k (.load [.int .i64, .int .i64, .int .i64] true (.tmp 23))), .mk (some 25) none (.k (.eqa true [.int .i64, .int .i64, .int .i64] (.tmp 20) (.tmp 24)))]) (.cond (.tmp 25) (.ref 1) .skip))) (.ref 2)
def T27n4 : XC := .seq (.seq (.ops [.mk (some 11) none (.k (.mov (.tmp 5))), .mk (some 12) none (.k (.mov (.tmp 0))), .mk (some 13) none (.k (.lenS (.tmp 12))), .mk (some 14) none (.k (.cmp .lss .i64 (.tmp 11) (.tmp 13)))]) (.cond (.tmp 14) .skip (.exit 0))) (.ref 3)
def T27n5 : XC := .seq (.ops [.mk (some 4) none (.k (.mov (.const (.bool true))))]) .ret
def T27n6 : XC := .seq (.seq (.ops [.mk (some 5) none (.k (.mov (.const (.int .i64 0))))]) (.blk 0 (.loop (.ref 4)))) (.ref 5)
def T27n7 : XC := .seq (.seq (.ops [.mk (some 6) none (.k (.mov (.tmp 0))), .mk (some 7) none (.k (.lenS (.tmp 6))), .mk (some 8) none (.k (.mov (.tmp 1))), .mk (some 9) none (.k (.lenS (.tmp 8))), .mk (some 10) none (.k (.cmp .neq .i64 (.tmp 7) (.tmp 9)))]) (.cond (.tmp 10) (.ref 0) .skip)) (.ref 6)
def T27 : Nat → XC
 | 0 => T27n0
 | 1 => T27n1
 | 2 => T27n2
 | 3 => T27n3
 | 4 => T27n4
 | 5 => T27n5
 | 6 => T27n6
 | 7 => T27n7
 | _ => .skip
theorem t27n0 : T27 0 = T27n0 := rfl
theorem t27n1 : T27 1 = T27n1 := rfl
theorem t27n2 : T27 2 = T27n2 := rfl
theorem t27n3 : T27 3 = T27n3 := rfl
theorem t27n4 : T27 4 = T27n4 := rfl
theorem t27n5 : T27 5 = T27n5 := rfl
theorem t27n6 : T27 6 = T27n6 := rfl
theorem t27n7 : T27 7 = T27n7 := rfl
def X27 : XC := .seq (.ops [.mk (some 4) none (.k (.mov (.const (.bool false))))]) (.ref 7)
abbrev K27 : List Nat := [0, 1, 4, 5, 10, 14, 25]
theorem n27 : Try.f27.ntmps = 26 := by kernel_rfl
theorem r27 : resT Try.f27.results.toList = some [4] := by kernel_rfl
theorem x27 : cmpF Try.prog Try.f27 = some (expand T27 9 X27) := by kernel_rfl
def T8n0 : XC := .seq (.ops [.mk (some 2) none (.k (.mov (.const (.bool true))))]) .ret
def T8n1 : XC := .seq (.ops [.mk (some 2) none (.k (.mov (.const (.bool false))))]) .ret
def T8n2 : XC := .seq (.ops [.mk (some 2) none (.k (.mov (.const (.bool false))))]) .ret
def T8n3 : XC := .seq (.ops [.mk (some 54) none (.k (.mov (.tmp 3))), .mk (some 55) none (.k (.mov (.tmp 8))), .mk (some 56) none (.k (.idx 9 (.tmp 54) (.tmp 55))), .mk (some 57) none (.k (.load [.int .i64, .int .i64, .int .i64, .int .i64, .int .i64, .int .i64, .int .i64, .int .u64, .int .i64] true (.tmp 56))), .mk (some 58) none (.k (.mov (.tmp 0))), .mk (some 59) none (.k (.mov (.tmp 8))), .mk (some 60) none (.k (.idx 9 (.tmp 58) (.tmp 59))), .mk (some 61) none (.k (.load [.int .i64, .int .i64, .int .i64, .int .i64, .int .i64, .int .i64, .int .i64, .int .u64, .int .i64] true (.tmp 60))), .mk (some 62) none (.k (.eqa true [.int .i64, .int .i64, .int .i64, .int .i64, .int .i64, .int .i64, .int .i64, .int .u64, .int .i64] (.tmp 57) (.tmp 61)))]) (.cond (.tmp 62) (.ref 2) .skip)
def T8n4 : XC := .seq (.blk 1 (.seq (.ops [.mk (some 53) none (.k (.mov (.tmp 51))), .mk (some 8) none (.k (.mov (.tmp 53)))]) (.ref 3))) (.ops [.mk (some 63) none (.k (.arith .add .i64 (.tmp 51) (.const (.int .i64 1)))), .mk (some 51) none (.k (.mov (.tmp 63)))])
def T8n5 : XC := .seq (.cond (.tmp 52) .skip (.exit 0)) (.ref 4)
def T8n6 : XC := .seq (.ops [.mk (some 52) none (.k (.cmp .lss .i64 (.tmp 51) (.tmp 50)))]) (.ref 5)
def T8n7 : XC := .seq (.ops [.mk (some 2) none (.k (.mov (.const (.bool true))))]) .ret
def T8n8 : XC := .seq (.seq (.ops [.mk (some 49) none (.k (.mov (.tmp 0))), .mk (some 50) none (.k (.lenS (.tmp 49))), .mk (some 51) none (.k (.mov (.const (.int .i64 0))))]) (.blk 0 (.loop (.ref 6)))) (.ref 7)
def T8n9 : XC := .seq (.seq (.ops [.mk (some 31) none (.k (.mov (.tmp 5))), .mk (some 32) none (.k (.mov (.tmp 7))), .mk (some 33) none (.k (.cmp .neq .i64 (.tmp 31) (.tmp 32))), .mk (some 34) none (.k (.mov (.tmp 33))), .mk (some 35) (some (34, false)) (.k (.mov (.tmp 4))), .mk (some 36) (some (34, false)) (.k (.mov (.tmp 6))), .mk (some 37) (some (34, false)) (.call 27 [.tmp 35, .tmp 36]), .mk (some 38) (some (34, false)) (.k (.not (.tmp 37))), .mk (some 39) none (.k (.pick (.tmp 34) (.const (.bool true)) (.tmp 38))), .mk (some 40) none (.k (.mov (.tmp 39))), .mk (some 41) (some (40, false)) (.k (.mov (.tmp 3))), .mk (some 42) (some (40, false)) (.k (.mov (.tmp 0))), .mk (some 43) (some (40, false)) (.k (.lenS (.tmp 42))), .mk (some 44) (some (40, false)) (.k (.idx 9 (.tmp 41) (.tmp 43))), .mk (some 45) (some (40, false)) (.k (.fld 0 (.tmp 44))), .mk (some 46) (some (40, false)) (.k (.load [.int .i64] false (.tmp 45))), .mk (some 47) (some (40, false)) (.k (.cmp .neq .i64 (.tmp 46) (.const (.int .i64 77)))), .mk (some 48) none (.k (.pick (.tmp 40) (.const (.bool true)) (.tmp 47)))]) (.cond (.tmp 48) (.ref 1) .skip)) (.ref 8)
def T8n10 : XC := .seq (.ops [.mk (some 27) none (.k (.mov (.tmp 0))), .mk (some 28) none (.call 30 [.tmp 27]), .mk (some 26) none (.k (.mov (.tmp 28))), .mk (some 29) none (.k (.ext (.tmp 26) 0)), .mk (some 30) none (.k (.ext (.tmp 26) 1)), .mk (some 6) none (.k (.mov (.tmp 29))), .mk (some 7) none (.k (.mov (.tmp 30)))]) (.ref 9)
def T8n11 : XC := .seq (.ops [.mk (some 19) none (.k (.mov (.tmp 3))), .mk (some 20) none (.k (.mov (.tmp 0))), .mk (some 21) none (.k (.lenS (.tmp 20))), .mk (some 22) none (.k (.sub 9 (.tmp 19) none (some (.tmp 21)))), .mk (some 23) none (.call 29 [.tmp 22]), .mk (some 18) none (.k (.mov (.tmp 23))), .mk (some 24) none (.k (.ext (.tmp 18) 0)), .mk (some 25) none (.k (.ext (.tmp 18) 1)), .mk (some 4) none (.k (.mov (.tmp 24))), .mk (some 5) none (.k (.mov (.tmp 25)))]) (.ref 10)
def T8n12 : XC := .seq (.ops [.mk (some 12) none (.k (.mov (.tmp 3))), .mk (some 13) none (.k (.mov (.tmp 0))), .mk (some 14) none (.k (.app 65 9 72 (.tmp 12) (.tmp 13))), .mk (some 15) none (.k (.build [.int .i64 0, .int .i64 0, .int .i64 0, .int .i64 0, .int .i64 0, .int .i64 0, .int .i64 0, .int .u64 0, .int .i64 0] [(0, 1, .const (.int .i64 77))])), .mk (some 16) none (.k (.buildS 65 1 9 [.int .i64 0, .int .i64 0, .int .i64 0, .int .i64 0, .int .i64 0, .int .i64 0, .int .i64 0, .int .u64 0, .int .i64 0] [(0, .tmp 15)])), .mk (some 17) none (.k (.app 65 9 72 (.tmp 14) (.tmp 16))), .mk (some 3) none (.k (.mov (.tmp 17)))]) (.ref 11)
def T8n13 : XC := .seq (.ops [.mk (some 3) none (.k (.mov (.const (.slice none 0 0))))]) (.ref 12)
def T8n14 : XC := .seq (.seq (.ops [.mk (some 9) none (.k (.mov (.tmp 0))), .mk (some 10) none (.k (.lenS (.tmp 9))), .mk (some 11) none (.k (.cmp .gtr .i64 (.tmp 10) (.const (.int .i64 300))))]) (.cond (.tmp 11) (.ref 0) .skip)) (.ref 13)
def T8 : Nat → XC
 | 0 => T8n0
 | 1 => T8n1
 | 2 => T8n2
 | 3 => T8n3
 | 4 => T8n4
 | 5 => T8n5
 | 6 => T8n6
 | 7 => T8n7
 | 8 => T8n8
 | 9 => T8n9
 | 10 => T8n10
 | 11 => T8n11
 | 12 => T8n12
 | 13 => T8n13
 | 14 => T8n14
 | _ => .skip
theorem t8n0 : T8 0 = T8n0 := rfl
theorem t8n1 : T8 1 = T8n1 := rfl
theorem t8n2 : T8 2 = T8n2 := rfl
theorem t8n3 : T8 3 = T8n3 := rfl
theorem t8n4 : T8 4 = T8n4 := rfl
theorem t8n5 : T8 5 = T8n5 := rfl
theorem t8n6 : T8 6 = T8n6 := rfl
theorem t8n7 : T8 7 = T8n7 := rfl
theorem t8n8 : T8 8 = T8n8 := rfl
theorem t8n9 : T8 9 = T8n9 := rfl
theorem t8n10 : T8 10 = T8n10 := rfl
theorem t8n11 : T8 11 = T8n11 := rfl
theorem t8n12 : T8 12 = T8n12 := rfl
theorem t8n13 : T8 13 = T8n13 := rfl
theorem t8n14 : T8 14 = T8n14 := rfl
def X8 : XC := .seq (.ops [.mk (some 2) none (.k (.mov (.const (.bool false))))]) (.ref 14)
abbrev K8 : List Nat := [0, 2, 3, 4, 5, 6, 7, 8, 11, 48, 50, 51, 52, 62]
theorem n8 : Try.f8.ntmps = 64 := by kernel_rfl
theorem r8 : resT Try.f8.results.toList = some [2] := by kernel_rfl
theorem x8 : cmpF Try.prog Try.f8 = some (expand T8 16 X8) := by kernel_rfl
end Go.Proofs.Ytnedgfkgmdoahaa
