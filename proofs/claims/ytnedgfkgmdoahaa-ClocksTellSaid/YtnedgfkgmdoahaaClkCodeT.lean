/- Printed by program: the small code of functions, and that it is theirs. -/
import Derived.Test.YtnedgfkgmdoahaaSxStill
import Derived.Test.YtnedgfkgmdoahaaProg
import Derived.KernelRfl
set_option linter.unusedSimpArgs false
set_option linter.unusedVariables false
set_option linter.unnecessarySimpa false
namespace Go.Proofs.Ytnedgfkgmdoahaa
open Go Go.Sx
set_option maxRecDepth 100000
def T4n0 : XC := .seq (.ops [.mk (some 6) none (.k (.mov (.const (.bool true))))]) .ret
def T4n1 : XC := .seq (.ops [.mk (some 6) none (.k (.mov (.const (.bool false))))]) .ret
def T4n2 : XC := .ops [.mk (some 115) none (.k (.mov (.tmp 19))), .mk (some 116) none (.k (.mov (.tmp 1))), .mk (some 117) none (.k (.idx 1 (.tmp 115) (.tmp 116))), .mk (some 118) none (.k (.load [.slc] false (.tmp 117))), .mk (some 119) none (.k (.mov (.tmp 2))), .mk (some 120) none (.k (.idx 1 (.tmp 118) (.tmp 119))), .mk (some 121) none (.k (.load [.bool] false (.tmp 120))), .mk (some 18) none (.k (.mov (.tmp 121)))]
def T4n3 : XC := .seq (.ops [.mk (some 113) none (.k (.mov (.tmp 0))), .mk (some 114) none (.call 26 [.tmp 113]), .mk (some 19) none (.k (.mov (.tmp 114)))]) (.ref 2)
def T4n4 : XC := .cond (.tmp 112) (.ops [.mk (some 11) none (.k (.mov (.const (.int .i64 260))))]) (.ref 3)
def T4n5 : XC := .seq (.ops [.mk (some 122) none (.k (.mov (.tmp 16))), .mk (some 123) none (.k (.mov (.tmp 18))), .mk (some 124) none (.k (.eqb false (.tmp 122) (.tmp 123))), .mk (some 125) none (.k (.mov (.tmp 124))), .mk (some 126) (some (125, true)) (.k (.mov (.tmp 17))), .mk (some 127) (some (125, true)) (.k (.mov (.tmp 11))), .mk (some 128) (some (125, true)) (.k (.cmp .eql .i64 (.tmp 126) (.tmp 127))), .mk (some 129) none (.k (.pick (.tmp 125) (.tmp 128) (.const (.bool false)))), .mk (some 130) none (.k (.mov (.tmp 129))), .mk (some 131) (some (130, true)) (.k (.mov (.tmp 7))), .mk (some 132) (some (130, true)) (.k (.mov (.tmp 0))), .mk (some 133) (some (130, true)) (.k (.lenS (.tmp 132))), .mk (some 134) (some (130, true)) (.k (.sub 3 (.tmp 131) none (some (.tmp 133)))), .mk (some 135) (some (130, true)) (.k (.mov (.tmp 0))), .mk (some 136) (some (130, true)) (.call 27 [.tmp 134, .tmp 135]), .mk (some 137) none (.k (.pick (.tmp 130) (.tmp 136) (.const (.bool false)))), .mk (some 138) none (.k (.mov (.tmp 137))), .mk (some 139) (some (138, true)) (.k (.mov (.tmp 7))), .mk (some 140) (some (138, true)) (.k (.mov (.tmp 0))), .mk (some 141) (some (138, true)) (.k (.lenS (.tmp 140))), .mk (some 142) (some (138, true)) (.k (.idx 3 (.tmp 139) (.tmp 141))), .mk (some 143) (some (138, true)) (.k (.fld 0 (.tmp 142))), .mk (some 144) (some (138, true)) (.k (.load [.int .i64] false (.tmp 143))), .mk (some 145) (some (138, true)) (.k (.cmp .eql .i64 (.tmp 144) (.const (.int .i64 77)))), .mk (some 146) none (.k (.pick (.tmp 138) (.tmp 145) (.const (.bool false)))), .mk (some 6) none (.k (.mov (.tmp 146)))]) .ret
def T4n6 : XC := .seq (.seq (.ops [.mk (some 91) none (.k (.mov (.tmp 11))), .mk (some 92) none (.k (.cmp .neq .i64 (.tmp 91) (.const (.int .i64 0)))), .mk (some 93) none (.k (.mov (.tmp 92))), .mk (some 94) (some (93, false)) (.k (.mov (.tmp 1))), .mk (some 95) (some (93, false)) (.k (.cmp .lss .i64 (.tmp 94) (.const (.int .i64 0)))), .mk (some 96) none (.k (.pick (.tmp 93) (.const (.bool true)) (.tmp 95))), .mk (some 97) none (.k (.mov (.tmp 96))), .mk (some 98) (some (97, false)) (.k (.mov (.tmp 2))), .mk (some 99) (some (97, false)) (.k (.cmp .lss .i64 (.tmp 98) (.const (.int .i64 0)))), .mk (some 100) none (.k (.pick (.tmp 97) (.const (.bool true)) (.tmp 99))), .mk (some 101) none (.k (.mov (.tmp 100))), .mk (some 102) (some (101, false)) (.k (.mov (.tmp 1))), .mk (some 103) (some (101, false)) (.k (.mov (.tmp 0))), .mk (some 104) (some (101, false)) (.k (.lenS (.tmp 103))), .mk (some 105) (some (101, false)) (.k (.cmp .geq .i64 (.tmp 102) (.tmp 104))), .mk (some 106) none (.k (.pick (.tmp 101) (.const (.bool true)) (.tmp 105))), .mk (some 107) none (.k (.mov (.tmp 106))), .mk (some 108) (some (107, false)) (.k (.mov (.tmp 2))), .mk (some 109) (some (107, false)) (.k (.mov (.tmp 0))), .mk (some 110) (some (107, false)) (.k (.lenS (.tmp 109))), .mk (some 111) (some (107, false)) (.k (.cmp .geq .i64 (.tmp 108) (.tmp 110))), .mk (some 112) none (.k (.pick (.tmp 107) (.const (.bool true)) (.tmp 111)))]) (.ref 4)) (.ref 5)
def T4n7 : XC := .seq (.ops [.mk (some 18) none (.k (.mov (.const (.bool false))))]) (.ref 6)
def T4n8 : XC := .seq (.ops [.mk (some 82) none (.k (.mov (.tmp 7))), .mk (some 83) none (.k (.mov (.tmp 0))), .mk (some 84) none (.k (.lenS (.tmp 83))), .mk (some 85) none (.k (.sub 3 (.tmp 82) none (some (.tmp 84)))), .mk (some 86) none (.k (.mov (.tmp 1))), .mk (some 87) none (.k (.mov (.tmp 2))), .mk (some 88) none (.call 25 [.tmp 85, .tmp 86, .tmp 87]), .mk (some 81) none (.k (.mov (.tmp 88))), .mk (some 89) none (.k (.ext (.tmp 81) 0)), .mk (some 90) none (.k (.ext (.tmp 81) 1)), .mk (some 16) none (.k (.mov (.tmp 89))), .mk (some 17) none (.k (.mov (.tmp 90)))]) (.ref 7)
def T4n9 : XC := .seq (.seq (.ops [.mk (some 61) none (.k (.mov (.tmp 9))), .mk (some 62) none (.k (.mov (.tmp 11))), .mk (some 63) none (.k (.cmp .neq .i64 (.tmp 61) (.tmp 62))), .mk (some 64) none (.k (.mov (.tmp 63))), .mk (some 65) (some (64, false)) (.k (.mov (.tmp 13))), .mk (some 66) (some (64, false)) (.k (.mov (.tmp 15))), .mk (some 67) (some (64, false)) (.k (.cmp .neq .i64 (.tmp 65) (.tmp 66))), .mk (some 68) none (.k (.pick (.tmp 64) (.const (.bool true)) (.tmp 67))), .mk (some 69) none (.k (.mov (.tmp 68))), .mk (some 70) (some (69, false)) (.k (.mov (.tmp 8))), .mk (some 71) (some (69, false)) (.k (.mov (.tmp 10))), .mk (some 72) (some (69, false)) (.call 23 [.tmp 70, .tmp 71]), .mk (some 73) (some (69, false)) (.k (.not (.tmp 72))), .mk (some 74) none (.k (.pick (.tmp 69) (.const (.bool true)) (.tmp 73))), .mk (some 75) none (.k (.mov (.tmp 74))), .mk (some 76) (some (75, false)) (.k (.mov (.tmp 12))), .mk (some 77) (some (75, false)) (.k (.mov (.tmp 14))), .mk (some 78) (some (75, false)) (.call 24 [.tmp 76, .tmp 77]), .mk (some 79) (some (75, false)) (.k (.not (.tmp 78))), .mk (some 80) none (.k (.pick (.tmp 75) (.const (.bool true)) (.tmp 79)))]) (.cond (.tmp 80) (.ref 1) .skip)) (.ref 8)
def T4n10 : XC := .seq (.ops [.mk (some 57) none (.k (.mov (.tmp 0))), .mk (some 58) none (.call 22 [.tmp 57]), .mk (some 56) none (.k (.mov (.tmp 58))), .mk (some 59) none (.k (.ext (.tmp 56) 0)), .mk (some 60) none (.k (.ext (.tmp 56) 1)), .mk (some 14) none (.k (.mov (.tmp 59))), .mk (some 15) none (.k (.mov (.tmp 60)))]) (.ref 9)
def T4n11 : XC := .seq (.ops [.mk (some 49) none (.k (.mov (.tmp 7))), .mk (some 50) none (.k (.mov (.tmp 0))), .mk (some 51) none (.k (.lenS (.tmp 50))), .mk (some 52) none (.k (.sub 3 (.tmp 49) none (some (.tmp 51)))), .mk (some 53) none (.call 21 [.tmp 52]), .mk (some 48) none (.k (.mov (.tmp 53))), .mk (some 54) none (.k (.ext (.tmp 48) 0)), .mk (some 55) none (.k (.ext (.tmp 48) 1)), .mk (some 12) none (.k (.mov (.tmp 54))), .mk (some 13) none (.k (.mov (.tmp 55)))]) (.ref 10)
def T4n12 : XC := .seq (.ops [.mk (some 44) none (.k (.mov (.tmp 0))), .mk (some 45) none (.call 20 [.tmp 44]), .mk (some 43) none (.k (.mov (.tmp 45))), .mk (some 46) none (.k (.ext (.tmp 43) 0)), .mk (some 47) none (.k (.ext (.tmp 43) 1)), .mk (some 10) none (.k (.mov (.tmp 46))), .mk (some 11) none (.k (.mov (.tmp 47)))]) (.ref 11)
def T4n13 : XC := .seq (.ops [.mk (some 36) none (.k (.mov (.tmp 7))), .mk (some 37) none (.k (.mov (.tmp 0))), .mk (some 38) none (.k (.lenS (.tmp 37))), .mk (some 39) none (.k (.sub 3 (.tmp 36) none (some (.tmp 38)))), .mk (some 40) none (.call 19 [.tmp 39]), .mk (some 35) none (.k (.mov (.tmp 40))), .mk (some 41) none (.k (.ext (.tmp 35) 0)), .mk (some 42) none (.k (.ext (.tmp 35) 1)), .mk (some 8) none (.k (.mov (.tmp 41))), .mk (some 9) none (.k (.mov (.tmp 42)))]) (.ref 12)
def T4n14 : XC := .seq (.ops [.mk (some 33) none (.k (.mov (.tmp 0))), .mk (some 34) none (.call 18 [.tmp 33]), .mk (some 7) none (.k (.mov (.tmp 34)))]) (.ref 13)
def T4n15 : XC := .seq (.seq (.ops [.mk (some 20) none (.k (.mov (.tmp 0))), .mk (some 21) none (.k (.lenS (.tmp 20))), .mk (some 22) none (.k (.cmp .gtr .i64 (.tmp 21) (.const (.int .i64 100)))), .mk (some 23) none (.k (.mov (.tmp 22))), .mk (some 24) (some (23, true)) (.k (.mov (.tmp 0))), .mk (some 25) (some (23, true)) (.k (.lenS (.tmp 24))), .mk (some 26) (some (23, true)) (.k (.cmp .leq .i64 (.tmp 25) (.const (.int .i64 400)))), .mk (some 27) none (.k (.pick (.tmp 23) (.tmp 26) (.const (.bool false)))), .mk (some 28) none (.k (.mov (.tmp 27))), .mk (some 29) (some (28, false)) (.k (.mov (.tmp 0))), .mk (some 30) (some (28, false)) (.k (.lenS (.tmp 29))), .mk (some 31) (some (28, false)) (.k (.cmp .gtr .i64 (.tmp 30) (.const (.int .i64 500)))), .mk (some 32) none (.k (.pick (.tmp 28) (.const (.bool true)) (.tmp 31)))]) (.cond (.tmp 32) (.ref 0) .skip)) (.ref 14)
def T4 : Nat → XC
 | 0 => T4n0
 | 1 => T4n1
 | 2 => T4n2
 | 3 => T4n3
 | 4 => T4n4
 | 5 => T4n5
 | 6 => T4n6
 | 7 => T4n7
 | 8 => T4n8
 | 9 => T4n9
 | 10 => T4n10
 | 11 => T4n11
 | 12 => T4n12
 | 13 => T4n13
 | 14 => T4n14
 | 15 => T4n15
 | _ => .skip
theorem t4n0 : T4 0 = T4n0 := rfl
theorem t4n1 : T4 1 = T4n1 := rfl
theorem t4n2 : T4 2 = T4n2 := rfl
theorem t4n3 : T4 3 = T4n3 := rfl
theorem t4n4 : T4 4 = T4n4 := rfl
theorem t4n5 : T4 5 = T4n5 := rfl
theorem t4n6 : T4 6 = T4n6 := rfl
theorem t4n7 : T4 7 = T4n7 := rfl
theorem t4n8 : T4 8 = T4n8 := rfl
theorem t4n9 : T4 9 = T4n9 := rfl
theorem t4n10 : T4 10 = T4n10 := rfl
theorem t4n11 : T4 11 = T4n11 := rfl
theorem t4n12 : T4 12 = T4n12 := rfl
theorem t4n13 : T4 13 = T4n13 := rfl
theorem t4n14 : T4 14 = T4n14 := rfl
theorem t4n15 : T4 15 = T4n15 := rfl
def X4 : XC := .seq (.ops [.mk (some 6) none (.k (.mov (.const (.bool false))))]) (.ref 15)
abbrev K4 : List Nat := [0, 1, 2, 6, 7, 8, 9, 10, 11, 12, 13, 14, 15, 16, 17, 18, 19, 32, 80, 112]
theorem n4 : Try.f4.ntmps = 147 := by kernel_rfl
theorem r4 : resT Try.f4.results.toList = some [6] := by kernel_rfl
theorem x4 : cmpF Try.prog Try.f4 = some (expand T4 17 X4) := by kernel_rfl
def T18n0 : XC := .seq (.ops [.mk (some 10) none (.k (.mov (.tmp 3))), .mk (some 2) none (.k (.mov (.tmp 10)))]) .ret
def T18n1 : XC := .seq (.ops [.mk (some 4) none (.k (.mov (.tmp 3))), .mk (some 5) none (.k (.mov (.tmp 0))), .mk (some 6) none (.k (.app 29 3 24 (.tmp 4) (.tmp 5))), .mk (some 7) none (.k (.build [.int .i64 0, .int .i64 0, .int .i64 0] [(0, 1, .const (.int .i64 77))])), .mk (some 8) none (.k (.buildS 29 1 3 [.int .i64 0, .int .i64 0, .int .i64 0] [(0, .tmp 7)])), .mk (some 9) none (.k (.app 29 3 24 (.tmp 6) (.tmp 8))), .mk (some 3) none (.k (.mov (.tmp 9)))]) (.ref 0)
def T18n2 : XC := .seq (.ops [.mk (some 3) none (.k (.mov (.const (.slice none 0 0))))]) (.ref 1)
def T18 : Nat → XC
 | 0 => T18n0
 | 1 => T18n1
 | 2 => T18n2
 | _ => .skip
theorem t18n0 : T18 0 = T18n0 := rfl
theorem t18n1 : T18 1 = T18n1 := rfl
theorem t18n2 : T18 2 = T18n2 := rfl
def X18 : XC := .seq (.ops [.mk (some 2) none (.k (.mov (.const (.slice none 0 0))))]) (.ref 2)
abbrev K18 : List Nat := [0, 2, 3]
theorem n18 : Try.f18.ntmps = 11 := by kernel_rfl
theorem r18 : resT Try.f18.results.toList = some [2] := by kernel_rfl
theorem x18 : cmpF Try.prog Try.f18 = some (expand T18 4 X18) := by kernel_rfl
def T20n0 : XC := .seq (.ops [.mk (some 2) none (.k (.mov (.const (.slice none 0 0)))), .mk (some 3) none (.k (.mov (.const (.int .i64 260))))]) .ret
def T20n1 : XC := .ops [.mk (some 39) none (.k (.mov (.tmp 0))), .mk (some 40) none (.k (.mov (.tmp 9))), .mk (some 41) none (.k (.idx 3 (.tmp 39) (.tmp 40))), .mk (some 42) none (.k (.fld 0 (.tmp 41))), .mk (some 43) none (.k (.load [.int .i64] false (.tmp 42))), .mk (some 44) none (.k (.idxA 4 1 (.tmp 8) (.tmp 43))), .mk (some 45) none (.k (.load [.int .i64] false (.tmp 44))), .mk (some 46) none (.k (.arith .add .i64 (.tmp 45) (.const (.int .i64 1)))), .mk (some 47) none (.k (.idxA 4 1 (.tmp 8) (.tmp 43))), .mk none none (.k (.store 1 (.tmp 47) (.tmp 46)))]
def T20n2 : XC := .ops [.mk (some 25) none (.k (.mov (.tmp 9))), .mk (some 26) none (.k (.arith .add .i64 (.tmp 25) (.const (.int .i64 1)))), .mk (some 9) none (.k (.mov (.tmp 26)))]
def T20n3 : XC := .seq (.blk 3 (.seq (.ops [.mk (some 27) none (.k (.mov (.tmp 9))), .mk (some 28) none (.k (.mov (.tmp 7))), .mk (some 29) none (.k (.cmp .eql .i64 (.tmp 27) (.tmp 28))), .mk (some 30) none (.k (.mov (.tmp 29))), .mk (some 31) (some (30, false)) (.k (.mov (.tmp 5))), .mk (some 32) (some (30, false)) (.k (.mov (.tmp 9))), .mk (some 33) (some (30, false)) (.k (.idx 1 (.tmp 31) (.tmp 32))), .mk (some 34) (some (30, false)) (.k (.load [.slc] false (.tmp 33))), .mk (some 35) (some (30, false)) (.k (.mov (.tmp 7))), .mk (some 36) (some (30, false)) (.k (.idx 1 (.tmp 34) (.tmp 35))), .mk (some 37) (some (30, false)) (.k (.load [.bool] false (.tmp 36))), .mk (some 38) none (.k (.pick (.tmp 30) (.const (.bool true)) (.tmp 37)))]) (.cond (.tmp 38) (.ref 1) .skip))) (.ref 2)
def T20n4 : XC := .seq (.seq (.ops [.mk (some 22) none (.k (.mov (.tmp 9))), .mk (some 23) none (.k (.mov (.tmp 7))), .mk (some 24) none (.k (.cmp .leq .i64 (.tmp 22) (.tmp 23)))]) (.cond (.tmp 24) .skip (.exit 2))) (.ref 3)
def T20n5 : XC := .ops [.mk (some 48) none (.k (.mov (.tmp 6))), .mk (some 49) none (.k (.load [.int .i64, .int .i64, .int .i64, .int .i64] true (.tmp 8))), .mk (some 50) none (.k (.buildS 56 1 4 [.int .i64 0, .int .i64 0, .int .i64 0, .int .i64 0] [(0, .tmp 49)])), .mk (some 51) none (.k (.app 56 4 32 (.tmp 48) (.tmp 50))), .mk (some 6) none (.k (.mov (.tmp 51)))]
def T20n6 : XC := .seq (.seq (.ops [.mk (some 9) none (.k (.mov (.const (.int .i64 0))))]) (.blk 2 (.loop (.ref 4)))) (.ref 5)
def T20n7 : XC := .ops [.mk (some 20) none (.k (.mov (.tmp 7))), .mk (some 21) none (.k (.arith .add .i64 (.tmp 20) (.const (.int .i64 1)))), .mk (some 7) none (.k (.mov (.tmp 21)))]
def T20n8 : XC := .seq (.blk 1 (.seq (.ops [.mk (some 8) none (.k (.alloc 56 [.int .i64 0, .int .i64 0, .int .i64 0, .int .i64 0]))]) (.ref 6))) (.ref 7)
def T20n9 : XC := .seq (.seq (.ops [.mk (some 16) none (.k (.mov (.tmp 7))), .mk (some 17) none (.k (.mov (.tmp 0))), .mk (some 18) none (.k (.lenS (.tmp 17))), .mk (some 19) none (.k (.cmp .lss .i64 (.tmp 16) (.tmp 18)))]) (.cond (.tmp 19) .skip (.exit 0))) (.ref 8)
def T20n10 : XC := .seq (.ops [.mk (some 52) none (.k (.mov (.tmp 6))), .mk (some 2) none (.k (.mov (.tmp 52))), .mk (some 3) none (.k (.mov (.const (.int .i64 0))))]) .ret
def T20n11 : XC := .seq (.seq (.ops [.mk (some 7) none (.k (.mov (.const (.int .i64 0))))]) (.blk 0 (.loop (.ref 9)))) (.ref 10)
def T20n12 : XC := .seq (.ops [.mk (some 6) none (.k (.mov (.const (.slice none 0 0))))]) (.ref 11)
def T20n13 : XC := .seq (.ops [.mk (some 14) none (.k (.mov (.tmp 0))), .mk (some 15) none (.call 26 [.tmp 14]), .mk (some 5) none (.k (.mov (.tmp 15)))]) (.ref 12)
def T20n14 : XC := .seq (.seq (.ops [.mk (some 12) none (.k (.mov (.tmp 4))), .mk (some 13) none (.k (.not (.tmp 12)))]) (.cond (.tmp 13) (.ref 0) .skip)) (.ref 13)
def T20n15 : XC := .seq (.ops [.mk (some 10) none (.k (.mov (.tmp 0))), .mk (some 11) none (.call 51 [.tmp 10]), .mk (some 4) none (.k (.mov (.tmp 11)))]) (.ref 14)
def T20 : Nat → XC
 | 0 => T20n0
 | 1 => T20n1
 | 2 => T20n2
 | 3 => T20n3
 | 4 => T20n4
 | 5 => T20n5
 | 6 => T20n6
 | 7 => T20n7
 | 8 => T20n8
 | 9 => T20n9
 | 10 => T20n10
 | 11 => T20n11
 | 12 => T20n12
 | 13 => T20n13
 | 14 => T20n14
 | 15 => T20n15
 | _ => .skip
theorem t20n0 : T20 0 = T20n0 := rfl
theorem t20n1 : T20 1 = T20n1 := rfl
theorem t20n2 : T20 2 = T20n2 := rfl
theorem t20n3 : T20 3 = T20n3 := rfl
theorem t20n4 : T20 4 = T20n4 := rfl
theorem t20n5 : T20 5 = T20n5 := rfl
theorem t20n6 : T20 6 = T20n6 := rfl
theorem t20n7 : T20 7 = T20n7 := rfl
theorem t20n8 : T20 8 = T20n8 := rfl
theorem t20n9 : T20 9 = T20n9 := rfl
theorem t20n10 : T20 10 = T20n10 := rfl
theorem t20n11 : T20 11 = T20n11 := rfl
theorem t20n12 : T20 12 = T20n12 := rfl
theorem t20n13 : T20 13 = T20n13 := rfl
theorem t20n14 : T20 14 = T20n14 := rfl
theorem t20n15 : T20 15 = T20n15 := rfl
def X20 : XC := .seq (.ops [.mk (some 2) none (.k (.mov (.const (.slice none 0 0)))), .mk (some 3) none (.k (.mov (.const (.int .i64 0))))]) (.ref 15)
abbrev K20 : List Nat := [0, 2, 3, 4, 5, 6, 7, 8, 9, 13, 19, 24, 38]
theorem n20 : Try.f20.ntmps = 53 := by kernel_rfl
theorem r20 : resT Try.f20.results.toList = some [2, 3] := by kernel_rfl
theorem x20 : cmpF Try.prog Try.f20 = some (expand T20 17 X20) := by kernel_rfl
def T22n0 : XC := .seq (.ops [.mk (some 2) none (.k (.mov (.const (.slice none 0 0)))), .mk (some 3) none (.k (.mov (.const (.int .i64 260))))]) .ret
def T22n1 : XC := .ops [.mk (some 99) none (.k (.mov (.tmp 6))), .mk (some 100) none (.k (.mov (.tmp 7))), .mk (some 101) none (.k (.mov (.tmp 8))), .mk (some 102) none (.k (.build [.int .i64 0, .int .i64 0] [(0, 1, .tmp 100), (1, 1, .tmp 101)])), .mk (some 103) none (.k (.buildS 58 1 2 [.int .i64 0, .int .i64 0] [(0, .tmp 102)])), .mk (some 104) none (.k (.app 58 2 16 (.tmp 99) (.tmp 103))), .mk (some 6) none (.k (.mov (.tmp 104)))]
def T22n2 : XC := .seq (.ops [.mk (some 59) none (.k (.mov (.tmp 9))), .mk (some 60) none (.k (.mov (.tmp 59))), .mk (some 61) (some (60, false)) (.k (.mov (.tmp 10))), .mk (some 62) none (.k (.pick (.tmp 60) (.const (.bool true)) (.tmp 61))), .mk (some 63) none (.k (.mov (.tmp 62))), .mk (some 64) (some (63, true)) (.k (.mov (.tmp 0))), .mk (some 65) (some (63, true)) (.k (.mov (.tmp 7))), .mk (some 66) (some (63, true)) (.k (.idx 3 (.tmp 64) (.tmp 65))), .mk (some 67) (some (63, true)) (.k (.fld 2 (.tmp 66))), .mk (some 68) (some (63, true)) (.k (.load [.int .i64] false (.tmp 67))), .mk (some 69) (some (63, true)) (.k (.mov (.tmp 0))), .mk (some 70) (some (63, true)) (.k (.mov (.tmp 8))), .mk (some 71) (some (63, true)) (.k (.idx 3 (.tmp 69) (.tmp 70))), .mk (some 72) (some (63, true)) (.k (.fld 2 (.tmp 71))), .mk (some 73) (some (63, true)) (.k (.load [.int .i64] false (.tmp 72))), .mk (some 74) (some (63, true)) (.k (.cmp .eql .i64 (.tmp 68) (.tmp 73))), .mk (some 75) none (.k (.pick (.tmp 63) (.tmp 74) (.const (.bool false)))), .mk (some 76) none (.k (.mov (.tmp 75))), .mk (some 77) (some (76, true)) (.k (.mov (.tmp 0))), .mk (some 78) (some (76, true)) (.k (.mov (.tmp 7))), .mk (some 79) (some (76, true)) (.k (.idx 3 (.tmp 77) (.tmp 78))), .mk (some 80) (some (76, true)) (.k (.fld 0 (.tmp 79))), .mk (some 81) (some (76, true)) (.k (.load [.int .i64] false (.tmp 80))), .mk (some 82) (some (76, true)) (.k (.mov (.tmp 0))), .mk (some 83) (some (76, true)) (.k (.mov (.tmp 8))), .mk (some 84) (some (76, true)) (.k (.idx 3 (.tmp 82) (.tmp 83))), .mk (some 85) (some (76, true)) (.k (.fld 0 (.tmp 84))), .mk (some 86) (some (76, true)) (.k (.load [.int .i64] false (.tmp 85))), .mk (some 87) (some (76, true)) (.k (.cmp .neq .i64 (.tmp 81) (.tmp 86))), .mk (some 88) none (.k (.pick (.tmp 76) (.tmp 87) (.const (.bool false)))), .mk (some 89) none (.k (.mov (.tmp 88))), .mk (some 90) (some (89, true)) (.k (.mov (.tmp 5))), .mk (some 91) (some (89, true)) (.k (.mov (.tmp 7))), .mk (some 92) (some (89, true)) (.k (.idx 1 (.tmp 90) (.tmp 91))), .mk (some 93) (some (89, true)) (.k (.load [.slc] false (.tmp 92))), .mk (some 94) (some (89, true)) (.k (.mov (.tmp 8))), .mk (some 95) (some (89, true)) (.k (.idx 1 (.tmp 93) (.tmp 94))), .mk (some 96) (some (89, true)) (.k (.load [.bool] false (.tmp 95))), .mk (some 97) (some (89, true)) (.k (.not (.tmp 96))), .mk (some 98) none (.k (.pick (.tmp 89) (.tmp 97) (.const (.bool false))))]) (.cond (.tmp 98) (.ref 1) .skip)
def T22n3 : XC := .seq (.ops [.mk (some 45) none (.k (.mov (.tmp 0))), .mk (some 46) none (.k (.mov (.tmp 8))), .mk (some 47) none (.k (.idx 3 (.tmp 45) (.tmp 46))), .mk (some 48) none (.k (.fld 1 (.tmp 47))), .mk (some 49) none (.k (.load [.int .i64] false (.tmp 48))), .mk (some 50) none (.k (.cmp .eql .i64 (.tmp 49) (.const (.int .i64 2)))), .mk (some 51) none (.k (.mov (.tmp 50))), .mk (some 52) (some (51, true)) (.k (.mov (.tmp 0))), .mk (some 53) (some (51, true)) (.k (.mov (.tmp 7))), .mk (some 54) (some (51, true)) (.k (.idx 3 (.tmp 52) (.tmp 53))), .mk (some 55) (some (51, true)) (.k (.fld 1 (.tmp 54))), .mk (some 56) (some (51, true)) (.k (.load [.int .i64] false (.tmp 55))), .mk (some 57) (some (51, true)) (.k (.cmp .leq .i64 (.tmp 56) (.const (.int .i64 2)))), .mk (some 58) none (.k (.pick (.tmp 51) (.tmp 57) (.const (.bool false)))), .mk (some 10) none (.k (.mov (.tmp 58)))]) (.ref 2)
def T22n4 : XC := .ops [.mk (some 29) none (.k (.mov (.tmp 8))), .mk (some 30) none (.k (.arith .add .i64 (.tmp 29) (.const (.int .i64 1)))), .mk (some 8) none (.k (.mov (.tmp 30)))]
def T22n5 : XC := .seq (.blk 3 (.seq (.ops [.mk (some 31) none (.k (.mov (.tmp 0))), .mk (some 32) none (.k (.mov (.tmp 7))), .mk (some 33) none (.k (.idx 3 (.tmp 31) (.tmp 32))), .mk (some 34) none (.k (.fld 1 (.tmp 33))), .mk (some 35) none (.k (.load [.int .i64] false (.tmp 34))), .mk (some 36) none (.k (.cmp .eql .i64 (.tmp 35) (.const (.int .i64 2)))), .mk (some 37) none (.k (.mov (.tmp 36))), .mk (some 38) (some (37, true)) (.k (.mov (.tmp 0))), .mk (some 39) (some (37, true)) (.k (.mov (.tmp 8))), .mk (some 40) (some (37, true)) (.k (.idx 3 (.tmp 38) (.tmp 39))), .mk (some 41) (some (37, true)) (.k (.fld 1 (.tmp 40))), .mk (some 42) (some (37, true)) (.k (.load [.int .i64] false (.tmp 41))), .mk (some 43) (some (37, true)) (.k (.cmp .leq .i64 (.tmp 42) (.const (.int .i64 2)))), .mk (some 44) none (.k (.pick (.tmp 37) (.tmp 43) (.const (.bool false)))), .mk (some 9) none (.k (.mov (.tmp 44)))]) (.ref 3))) (.ref 4)
def T22n6 : XC := .seq (.seq (.ops [.mk (some 25) none (.k (.mov (.tmp 8))), .mk (some 26) none (.k (.mov (.tmp 0))), .mk (some 27) none (.k (.lenS (.tmp 26))), .mk (some 28) none (.k (.cmp .lss .i64 (.tmp 25) (.tmp 27)))]) (.cond (.tmp 28) .skip (.exit 2))) (.ref 5)
def T22n7 : XC := .ops [.mk (some 21) none (.k (.mov (.tmp 7))), .mk (some 22) none (.k (.arith .add .i64 (.tmp 21) (.const (.int .i64 1)))), .mk (some 7) none (.k (.mov (.tmp 22)))]
def T22n8 : XC := .seq (.blk 1 (.seq (.ops [.mk (some 23) none (.k (.mov (.tmp 7))), .mk (some 24) none (.k (.arith .add .i64 (.tmp 23) (.const (.int .i64 1)))), .mk (some 8) none (.k (.mov (.tmp 24)))]) (.blk 2 (.loop (.ref 6))))) (.ref 7)
def T22n9 : XC := .seq (.seq (.ops [.mk (some 17) none (.k (.mov (.tmp 7))), .mk (some 18) none (.k (.mov (.tmp 0))), .mk (some 19) none (.k (.lenS (.tmp 18))), .mk (some 20) none (.k (.cmp .lss .i64 (.tmp 17) (.tmp 19)))]) (.cond (.tmp 20) .skip (.exit 0))) (.ref 8)
def T22n10 : XC := .seq (.ops [.mk (some 105) none (.k (.mov (.tmp 6))), .mk (some 2) none (.k (.mov (.tmp 105))), .mk (some 3) none (.k (.mov (.const (.int .i64 0))))]) .ret
def T22n11 : XC := .seq (.seq (.ops [.mk (some 7) none (.k (.mov (.const (.int .i64 0))))]) (.blk 0 (.loop (.ref 9)))) (.ref 10)
def T22n12 : XC := .seq (.ops [.mk (some 6) none (.k (.mov (.const (.slice none 0 0))))]) (.ref 11)
def T22n13 : XC := .seq (.ops [.mk (some 15) none (.k (.mov (.tmp 0))), .mk (some 16) none (.call 26 [.tmp 15]), .mk (some 5) none (.k (.mov (.tmp 16)))]) (.ref 12)
def T22n14 : XC := .seq (.seq (.ops [.mk (some 13) none (.k (.mov (.tmp 4))), .mk (some 14) none (.k (.not (.tmp 13)))]) (.cond (.tmp 14) (.ref 0) .skip)) (.ref 13)
def T22n15 : XC := .seq (.ops [.mk (some 11) none (.k (.mov (.tmp 0))), .mk (some 12) none (.call 51 [.tmp 11]), .mk (some 4) none (.k (.mov (.tmp 12)))]) (.ref 14)
def T22 : Nat → XC
 | 0 => T22n0
 | 1 => T22n1
 | 2 => T22n2
 | 3 => T22n3
 | 4 => T22n4
 | 5 => T22n5
 | 6 => T22n6
 | 7 => T22n7
 | 8 => T22n8
 | 9 => T22n9
 | 10 => T22n10
 | 11 => T22n11
 | 12 => T22n12
 | 13 => T22n13
 | 14 => T22n14
 | 15 => T22n15
 | _ => .skip
theorem t22n0 : T22 0 = T22n0 := rfl
theorem t22n1 : T22 1 = T22n1 := rfl
theorem t22n2 : T22 2 = T22n2 := rfl
theorem t22n3 : T22 3 = T22n3 := rfl
theorem t22n4 : T22 4 = T22n4 := rfl
theorem t22n5 : T22 5 = T22n5 := rfl
theorem t22n6 : T22 6 = T22n6 := rfl
theorem t22n7 : T22 7 = T22n7 := rfl
theorem t22n8 : T22 8 = T22n8 := rfl
theorem t22n9 : T22 9 = T22n9 := rfl
theorem t22n10 : T22 10 = T22n10 := rfl
theorem t22n11 : T22 11 = T22n11 := rfl
theorem t22n12 : T22 12 = T22n12 := rfl
theorem t22n13 : T22 13 = T22n13 := rfl
theorem t22n14 : T22 14 = T22n14 := rfl
theorem t22n15 : T22 15 = T22n15 := rfl
def X22 : XC := .seq (.ops [.mk (some 2) none (.k (.mov (.const (.slice none 0 0)))), .mk (some 3) none (.k (.mov (.const (.int .i64 0))))]) (.ref 15)
abbrev K22 : List Nat := [0, 2, 3, 4, 5, 6, 7, 8, 9, 10, 14, 20, 28, 98]
theorem n22 : Try.f22.ntmps = 106 := by kernel_rfl
theorem r22 : resT Try.f22.results.toList = some [2, 3] := by kernel_rfl
theorem x22 : cmpF Try.prog Try.f22 = some (expand T22 17 X22) := by kernel_rfl
def T23n0 : XC := .seq (.ops [.mk (some 4) none (.k (.mov (.const (.bool false))))]) .ret
def T23n1 : XC := .seq (.ops [.mk (some 4) none (.k (.mov (.const (.bool false))))]) .ret
def T23n2 : XC := .ops [.mk (some 15) none (.k (.mov (.tmp 5))), .mk (some 16) none (.k (.arith .add .i64 (.tmp 15) (.const (.int .i64 1)))), .mk (some 5) none (.k (.mov (.tmp 16)))]
def T23n3 : XC := .seq (.blk 1 (.seq (.ops [.mk (some 17) none (.k (.mov (.tmp 0))), .mk (some 18) none (.k (.mov (.tmp 5))), .mk (some 19) none (.k (.idx 4 (.tmp 17) (.tmp 18))), .mk (some 20) none (.k (.load [.int .i64, .int .i64, .int .i64, .int .i64] true (.tmp 19))), .mk (some 21) none (.k (.mov (.tmp 1))), .mk (some 22) none (.k (.mov (.tmp 5))), .mk (some 23) none (.k (.idx 4 (.tmp 21) (.tmp 22))), .mk (some 24) none (.k (.load [.int .i64, .int .i64, .int .i64, .int .i64] true (.tmp 23))), .mk (some 25) none (.k (.eqa true [.int .i64, .int .i64, .int .i64, .int .i64] (.tmp 20) (.tmp 24)))]) (.cond (.tmp 25) (.ref 1) .skip))) (.ref 2)
def T23n4 : XC := .seq (.seq (.ops [.mk (some 11) none (.k (.mov (.tmp 5))), .mk (some 12) none (.k (.mov (.tmp 0))), .mk (some 13) none (.k (.lenS (.tmp 12))), .mk (some 14) none (.k (.cmp .lss .i64 (.tmp 11) (.tmp 13)))]) (.cond (.tmp 14) .skip (.exit 0))) (.ref 3)
def T23n5 : XC := .seq (.ops [.mk (some 4) none (.k (.mov (.const (.bool true))))]) .ret
def T23n6 : XC := .seq (.seq (.ops [.mk (some 5) none (.k (.mov (.const (.int .i64 0))))]) (.blk 0 (.loop (.ref 4)))) (.ref 5)
def T23n7 : XC := .seq (.seq (.ops [.mk (some 6) none (.k (.mov (.tmp 0))), .mk (some 7) none (.k (.lenS (.tmp 6))), .mk (some 8) none (.k (.mov (.tmp 1))), .mk (some 9) none (.k (.lenS (.tmp 8))), .mk (some 10) none (.k (.cmp .neq .i64 (.tmp 7) (.tmp 9)))]) (.cond (.tmp 10) (.ref 0) .skip)) (.ref 6)
def T23 : Nat → XC
 | 0 => T23n0
 | 1 => T23n1
 | 2 => T23n2
 | 3 => T23n3
 | 4 => T23n4
 | 5 => T23n5
 | 6 => T23n6
 | 7 => T23n7
 | _ => .skip
theorem t23n0 : T23 0 = T23n0 := rfl
theorem t23n1 : T23 1 = T23n1 := rfl
theorem t23n2 : T23 2 = T23n2 := rfl
theorem t23n3 : T23 3 = T23n3 := rfl
theorem t23n4 : T23 4 = T23n4 := rfl
theorem t23n5 : T23 5 = T23n5 := rfl
theorem t23n6 : T23 6 = T23n6 := rfl
theorem t23n7 : T23 7 = T23n7 := rfl
def X23 : XC := .seq (.ops [.mk (some 4) none (.k (.mov (.const (.bool false))))]) (.ref 7)
abbrev K23 : List Nat := [0, 1, 4, 5, 10, 14, 25]
theorem n23 : Try.f23.ntmps = 26 := by kernel_rfl
theorem r23 : resT Try.f23.results.toList = some [4] := by kernel_rfl
theorem x23 : cmpF Try.prog Try.f23 = some (expand T23 9 X23) := by kernel_rfl
def T24n0 : XC := .seq (.ops [.mk (some 4) none (.k (.mov (.const (.bool false))))]) .ret
def T24n1 : XC := .seq (.ops [.mk (some 4) none (.k (.mov (.const (.bool false))))]) .ret
def T24n2 : XC := .ops [.mk (some 15) none (.k (.mov (.tmp 5))), .mk (some 16) none (.k (.arith .add .i64 (.tmp 15) (.const (.int .i64 1)))), .mk (some 5) none (.k (.mov (.tmp 16)))]
def T24n3 : XC := .seq (.blk 1 (.seq (.ops [.mk (some 17) none (.k (.mov (.tmp 0))), .mk (some 18) none (.k (.mov (.tmp 5))), .mk (some 19) none (.k (.idx 2 (.tmp 17) (.tmp 18))), .mk (some 20) none (.k (.load [.int .i64, .int .i64] true (.tmp 19))), .mk (some 21) none (.k (.mov (.tmp 1))), .mk (some 22) none (.k (.mov (.tmp 5))), .mk (some 23) none (.k (.idx 2 (.tmp 21) (.tmp 22))), .mk (some 24) none (.k (.load [.int .i64, .int .i64] true (.tmp 23))), .mk (some 25) none (.k (.eqa true [.int .i64, .int .i64] (.tmp 20) (.tmp 24)))]) (.cond (.tmp 25) (.ref 1) .skip))) (.ref 2)
def T24n4 : XC := .seq (.seq (.ops [.mk (some 11) none (.k (.mov (.tmp 5))), .mk (some 12) none (.k (.mov (.tmp 0))), .mk (some 13) none (.k (.lenS (.tmp 12))), .mk (some 14) none (.k (.cmp .lss .i64 (.tmp 11) (.tmp 13)))]) (.cond (.tmp 14) .skip (.exit 0))) (.ref 3)
def T24n5 : XC := .seq (.ops [.mk (some 4) none (.k (.mov (.const (.bool true))))]) .ret
def T24n6 : XC := .seq (.seq (.ops [.mk (some 5) none (.k (.mov (.const (.int .i64 0))))]) (.blk 0 (.loop (.ref 4)))) (.ref 5)
def T24n7 : XC := .seq (.seq (.ops [.mk (some 6) none (.k (.mov (.tmp 0))), .mk (some 7) none (.k (.lenS (.tmp 6))), .mk (some 8) none (.k (.mov (.tmp 1))), .mk (some 9) none (.k (.lenS (.tmp 8))), .mk (some 10) none (.k (.cmp .neq .i64 (.tmp 7) (.tmp 9)))]) (.cond (.tmp 10) (.ref 0) .skip)) (.ref 6)
def T24 : Nat → XC
 | 0 => T24n0
 | 1 => T24n1
 | 2 => T24n2
 | 3 => T24n3
 | 4 => T24n4
 | 5 => T24n5
 | 6 => T24n6
 | 7 => T24n7
 | _ => .skip
theorem t24n0 : T24 0 = T24n0 := rfl
theorem t24n1 : T24 1 = T24n1 := rfl
theorem t24n2 : T24 2 = T24n2 := rfl
theorem t24n3 : T24 3 = T24n3 := rfl
theorem t24n4 : T24 4 = T24n4 := rfl
theorem t24n5 : T24 5 = T24n5 := rfl
theorem t24n6 : T24 6 = T24n6 := rfl
theorem t24n7 : T24 7 = T24n7 := rfl
def X24 : XC := .seq (.ops [.mk (some 4) none (.k (.mov (.const (.bool false))))]) (.ref 7)
abbrev K24 : List Nat := [0, 1, 4, 5, 10, 14, 25]
theorem n24 : Try.f24.ntmps = 26 := by kernel_rfl
theorem r24 : resT Try.f24.results.toList = some [4] := by kernel_rfl
theorem x24 : cmpF Try.prog Try.f24 = some (expand T24 9 X24) := by kernel_rfl
def T26n0 : XC := .ops [.mk (some 13) none (.k (.mov (.tmp 4))), .mk (some 14) none (.k (.arith .add .i64 (.tmp 13) (.const (.int .i64 1)))), .mk (some 4) none (.k (.mov (.tmp 14)))]
def T26n1 : XC := .seq (.blk 1 (.ops [.mk (some 15) none (.k (.mov (.tmp 3))), .mk (some 16) none (.k (.mov (.tmp 0))), .mk (some 17) none (.k (.lenS (.tmp 16))), .mk (some 18) none (.k (.mkslc 4 1 1 [.bool false] (.tmp 17) (.tmp 17))), .mk (some 19) none (.k (.buildS 51 1 1 [.slice none 0 0] [(0, .tmp 18)])), .mk (some 20) none (.k (.app 51 1 24 (.tmp 15) (.tmp 19))), .mk (some 3) none (.k (.mov (.tmp 20)))])) (.ref 0)
def T26n2 : XC := .seq (.seq (.ops [.mk (some 9) none (.k (.mov (.tmp 4))), .mk (some 10) none (.k (.mov (.tmp 0))), .mk (some 11) none (.k (.lenS (.tmp 10))), .mk (some 12) none (.k (.cmp .lss .i64 (.tmp 9) (.tmp 11)))]) (.cond (.tmp 12) .skip (.exit 0))) (.ref 1)
def T26n3 : XC := .ops [.mk (some 84) none (.k (.mov (.tmp 8))), .mk (some 85) none (.k (.arith .add .i64 (.tmp 84) (.const (.int .i64 1)))), .mk (some 8) none (.k (.mov (.tmp 85)))]
def T26n4 : XC := .seq (.blk 7 (.ops [.mk (some 86) none (.k (.mov (.tmp 3))), .mk (some 87) none (.k (.mov (.tmp 8))), .mk (some 88) none (.k (.idx 1 (.tmp 86) (.tmp 87))), .mk (some 89) none (.k (.load [.slc] false (.tmp 88))), .mk (some 90) none (.k (.mov (.tmp 5))), .mk (some 91) none (.k (.mov (.tmp 3))), .mk (some 92) none (.k (.mov (.tmp 8))), .mk (some 93) none (.k (.idx 1 (.tmp 91) (.tmp 92))), .mk (some 94) none (.k (.load [.slc] false (.tmp 93))), .mk (some 95) none (.k (.mov (.tmp 5))), .mk (some 96) none (.k (.idx 1 (.tmp 94) (.tmp 95))), .mk (some 97) none (.k (.load [.bool] false (.tmp 96))), .mk (some 98) none (.k (.mov (.tmp 97))), .mk (some 99) (some (98, false)) (.k (.mov (.tmp 3))), .mk (some 100) (some (98, false)) (.k (.mov (.tmp 8))), .mk (some 101) (some (98, false)) (.k (.idx 1 (.tmp 99) (.tmp 100))), .mk (some 102) (some (98, false)) (.k (.load [.slc] false (.tmp 101))), .mk (some 103) (some (98, false)) (.k (.mov (.tmp 6))), .mk (some 104) (some (98, false)) (.k (.idx 1 (.tmp 102) (.tmp 103))), .mk (some 105) (some (98, false)) (.k (.load [.bool] false (.tmp 104))), .mk (some 106) none (.k (.pick (.tmp 98) (.const (.bool true)) (.tmp 105))), .mk (some 107) none (.k (.idx 1 (.tmp 89) (.tmp 90))), .mk none none (.k (.store 1 (.tmp 107) (.tmp 106)))])) (.ref 3)
def T26n5 : XC := .seq (.seq (.ops [.mk (some 81) none (.k (.mov (.tmp 8))), .mk (some 82) none (.k (.mov (.tmp 6))), .mk (some 83) none (.k (.cmp .lss .i64 (.tmp 81) (.tmp 82)))]) (.cond (.tmp 83) .skip (.exit 6))) (.ref 4)
def T26n6 : XC := .seq (.ops [.mk (some 8) none (.k (.mov (.const (.int .i64 0))))]) (.blk 6 (.loop (.ref 5)))
def T26n7 : XC := .seq (.ops [.mk (some 75) none (.k (.mov (.tmp 3))), .mk (some 76) none (.k (.mov (.tmp 6))), .mk (some 77) none (.k (.idx 1 (.tmp 75) (.tmp 76))), .mk (some 78) none (.k (.load [.slc] false (.tmp 77))), .mk (some 79) none (.k (.mov (.tmp 5))), .mk (some 80) none (.k (.idx 1 (.tmp 78) (.tmp 79))), .mk none none (.k (.store 1 (.tmp 80) (.const (.bool true))))]) (.ref 6)
def T26n8 : XC := .seq (.seq (.ops [.mk (some 60) none (.k (.mov (.tmp 0))), .mk (some 61) none (.k (.mov (.tmp 6))), .mk (some 62) none (.k (.idx 3 (.tmp 60) (.tmp 61))), .mk (some 63) none (.k (.fld 0 (.tmp 62))), .mk (some 64) none (.k (.load [.int .i64] false (.tmp 63))), .mk (some 65) none (.k (.mov (.tmp 0))), .mk (some 66) none (.k (.mov (.tmp 5))), .mk (some 67) none (.k (.idx 3 (.tmp 65) (.tmp 66))), .mk (some 68) none (.k (.fld 0 (.tmp 67))), .mk (some 69) none (.k (.load [.int .i64] false (.tmp 68))), .mk (some 70) none (.k (.cmp .neq .i64 (.tmp 64) (.tmp 69))), .mk (some 71) none (.k (.mov (.tmp 70))), .mk (some 72) (some (71, true)) (.k (.mov (.tmp 7))), .mk (some 73) (some (71, true)) (.k (.not (.tmp 72))), .mk (some 74) none (.k (.pick (.tmp 71) (.tmp 73) (.const (.bool false))))]) (.cond (.tmp 74) (.exit 5) .skip)) (.ref 7)
def T26n9 : XC := .ops [.mk (some 31) none (.k (.mov (.tmp 6))), .mk (some 32) none (.k (.arith .sub .i64 (.tmp 31) (.const (.int .i64 1)))), .mk (some 6) none (.k (.mov (.tmp 32)))]
def T26n10 : XC := .seq (.blk 5 (.seq (.ops [.mk (some 33) none (.k (.mov (.tmp 0))), .mk (some 34) none (.k (.mov (.tmp 6))), .mk (some 35) none (.k (.idx 3 (.tmp 33) (.tmp 34))), .mk (some 36) none (.k (.fld 1 (.tmp 35))), .mk (some 37) none (.k (.load [.int .i64] false (.tmp 36))), .mk (some 38) none (.k (.cmp .eql .i64 (.tmp 37) (.const (.int .i64 3)))), .mk (some 39) none (.k (.mov (.tmp 38))), .mk (some 40) (some (39, true)) (.k (.mov (.tmp 0))), .mk (some 41) (some (39, true)) (.k (.mov (.tmp 5))), .mk (some 42) (some (39, true)) (.k (.idx 3 (.tmp 40) (.tmp 41))), .mk (some 43) (some (39, true)) (.k (.fld 1 (.tmp 42))), .mk (some 44) (some (39, true)) (.k (.load [.int .i64] false (.tmp 43))), .mk (some 45) (some (39, true)) (.k (.cmp .eql .i64 (.tmp 44) (.const (.int .i64 4)))), .mk (some 46) none (.k (.pick (.tmp 39) (.tmp 45) (.const (.bool false)))), .mk (some 47) none (.k (.mov (.tmp 46))), .mk (some 48) (some (47, true)) (.k (.mov (.tmp 0))), .mk (some 49) (some (47, true)) (.k (.mov (.tmp 6))), .mk (some 50) (some (47, true)) (.k (.idx 3 (.tmp 48) (.tmp 49))), .mk (some 51) (some (47, true)) (.k (.fld 2 (.tmp 50))), .mk (some 52) (some (47, true)) (.k (.load [.int .i64] false (.tmp 51))), .mk (some 53) (some (47, true)) (.k (.mov (.tmp 0))), .mk (some 54) (some (47, true)) (.k (.mov (.tmp 5))), .mk (some 55) (some (47, true)) (.k (.idx 3 (.tmp 53) (.tmp 54))), .mk (some 56) (some (47, true)) (.k (.fld 2 (.tmp 55))), .mk (some 57) (some (47, true)) (.k (.load [.int .i64] false (.tmp 56))), .mk (some 58) (some (47, true)) (.k (.cmp .eql .i64 (.tmp 52) (.tmp 57))), .mk (some 59) none (.k (.pick (.tmp 47) (.tmp 58) (.const (.bool false)))), .mk (some 7) none (.k (.mov (.tmp 59)))]) (.ref 8))) (.ref 9)
def T26n11 : XC := .seq (.seq (.ops [.mk (some 29) none (.k (.mov (.tmp 6))), .mk (some 30) none (.k (.cmp .geq .i64 (.tmp 29) (.const (.int .i64 0))))]) (.cond (.tmp 30) .skip (.exit 4))) (.ref 10)
def T26n12 : XC := .ops [.mk (some 25) none (.k (.mov (.tmp 5))), .mk (some 26) none (.k (.arith .add .i64 (.tmp 25) (.const (.int .i64 1)))), .mk (some 5) none (.k (.mov (.tmp 26)))]
def T26n13 : XC := .seq (.blk 3 (.seq (.ops [.mk (some 27) none (.k (.mov (.tmp 5))), .mk (some 28) none (.k (.arith .sub .i64 (.tmp 27) (.const (.int .i64 1)))), .mk (some 6) none (.k (.mov (.tmp 28)))]) (.blk 4 (.loop (.ref 11))))) (.ref 12)
def T26n14 : XC := .seq (.seq (.ops [.mk (some 21) none (.k (.mov (.tmp 5))), .mk (some 22) none (.k (.mov (.tmp 0))), .mk (some 23) none (.k (.lenS (.tmp 22))), .mk (some 24) none (.k (.cmp .lss .i64 (.tmp 21) (.tmp 23)))]) (.cond (.tmp 24) .skip (.exit 2))) (.ref 13)
def T26n15 : XC := .seq (.ops [.mk (some 108) none (.k (.mov (.tmp 3))), .mk (some 2) none (.k (.mov (.tmp 108)))]) .ret
def T26n16 : XC := .seq (.seq (.ops [.mk (some 5) none (.k (.mov (.const (.int .i64 0))))]) (.blk 2 (.loop (.ref 14)))) (.ref 15)
def T26n17 : XC := .seq (.seq (.ops [.mk (some 4) none (.k (.mov (.const (.int .i64 0))))]) (.blk 0 (.loop (.ref 2)))) (.ref 16)
def T26n18 : XC := .seq (.ops [.mk (some 3) none (.k (.mov (.const (.slice none 0 0))))]) (.ref 17)
def T26 : Nat → XC
 | 0 => T26n0
 | 1 => T26n1
 | 2 => T26n2
 | 3 => T26n3
 | 4 => T26n4
 | 5 => T26n5
 | 6 => T26n6
 | 7 => T26n7
 | 8 => T26n8
 | 9 => T26n9
 | 10 => T26n10
 | 11 => T26n11
 | 12 => T26n12
 | 13 => T26n13
 | 14 => T26n14
 | 15 => T26n15
 | 16 => T26n16
 | 17 => T26n17
 | 18 => T26n18
 | _ => .skip
theorem t26n0 : T26 0 = T26n0 := rfl
theorem t26n1 : T26 1 = T26n1 := rfl
theorem t26n2 : T26 2 = T26n2 := rfl
theorem t26n3 : T26 3 = T26n3 := rfl
theorem t26n4 : T26 4 = T26n4 := rfl
theorem t26n5 : T26 5 = T26n5 := rfl
theorem t26n6 : T26 6 = T26n6 := rfl
theorem t26n7 : T26 7 = T26n7 := rfl
theorem t26n8 : T26 8 = T26n8 := rfl
theorem t26n9 : T26 9 = T26n9 := rfl
theorem t26n10 : T26 10 = T26n10 := rfl
theorem t26n11 : T26 11 = T26n11 := rfl
theorem t26n12 : T26 12 = T26n12 := rfl
theorem t26n13 : T26 13 = T26n13 := rfl
theorem t26n14 : T26 14 = T26n14 := rfl
theorem t26n15 : T26 15 = T26n15 := rfl
theorem t26n16 : T26 16 = T26n16 := rfl
theorem t26n17 : T26 17 = T26n17 := rfl
theorem t26n18 : T26 18 = T26n18 := rfl
def X26 : XC := .seq (.ops [.mk (some 2) none (.k (.mov (.const (.slice none 0 0))))]) (.ref 18)
abbrev K26 : List Nat := [0, 2, 3, 4, 5, 6, 7, 8, 12, 24, 30, 74, 83]
theorem n26 : Try.f26.ntmps = 109 := by kernel_rfl
theorem r26 : resT Try.f26.results.toList = some [2] := by kernel_rfl
theorem x26 : cmpF Try.prog Try.f26 = some (expand T26 20 X26) := by kernel_rfl
def T27n0 : XC := .seq (.ops [.mk (some 4) none (.k (.mov (.const (.bool false))))]) .ret
def T27n1 : XC := .seq (.ops [.mk (some 4) none (.k (.mov (.const (.bool false))))]) .ret
def T27n2 : XC := .ops [.mk (some 15) none (.k (.mov (.tmp 5))), .mk (some 16) none (.k (.arith .add .i64 (.tmp 15) (.const (.int .i64 1)))), .mk (some 5) none (.k (.mov (.tmp 16)))]
def T27n3 : XC := .seq (.blk 1 (.seq (.ops [.mk (some 17) none (.k (.mov (.tmp 0))), .mk (some 18) none (.k (.mov (.tmp 5))), .mk (some 19) none (.k (.idx 3 (.tmp 17) (.tmp 18))), .mk (some 20) none (.k (.load [.int .i64, .int .i64, .int .i64] true (.tmp 19))), .mk (some 21) none (.k (.mov (.tmp 1))), .mk (some 22) none (.k (.mov (.tmp 5))), .mk (some 23) none (.k (.idx 3 (.tmp 21) (.tmp 22))), .mk (some 24) none (.k (.load [.int .i64, .int .i64, .int .i64] true (.tmp 23))), .mk (some 25) none (.k (.eqa true [.int .i64, .int .i64, .int .i64] (.tmp 20) (.tmp 24)))]) (.cond (.tmp 25) (.ref 1) .skip))) (.ref 2)
def T27n4 : XC := .seq (.seq (.ops [.mk (some 11) none (.k (.mov (.tmp 5))), .mk (some 12) none (.k (.mov (.tmp 0))), .mk (some 13) none (.k (.lenS (.tmp 12))), .mk (some 14) none (.k (.cmp .lss .i64 (.tmp 11) (.tmp 13)))]) (.cond (.tmp 14) .skip (.exit 0))) (.ref 3)
def T27n5 : XC := .seq (.ops [.mk (some 4) none (.k (.mov (.const (.bool true))))]) .ret
def T27n6 : XC := .seq (.seq (.ops [.mk (some 5) none (.k (.mov (.const (.int .i64 0))))]) (.blk 0 (.loop (.ref 4)))) (.ref 5)
def T27n7 : XC := .seq (.seq (.ops [.mk (some 6) none (.k (.mov (.tmp 0))), .mk (some 7) none (.k (.lenS (.tmp 6))), .mk (some 8) none (.k (.mov (.tmp 1))), .mk (some 9) none (.k (.lenS (.tmp 8))), .mk (some 10) none (.k (.cmp .neq .i64 (.tmp 7) (.tmp 9)))]) (.cond (.tmp 10) (.ref 0) .skip)) (.ref 6)
def T27 : Nat → XC
 | 0 => T27n0
 | 1 => T27n1
 | 2 => T27n2
 | 3 => T27n3
 | 4 => T27n4
 | 5 => T27n5
 | 6 => T27n6
 | 7 => T27n7
 | _ => .skip
theorem t27n0 : T27 0 = T27n0 := rfl
theorem t27n1 : T27 1 = T27n1 := rfl
theorem t27n2 : T27 2 = T27n2 := rfl
theorem t27n3 : T27 3 = T27n3 := rfl
theorem t27n4 : T27 4 = T27n4 := rfl
theorem t27n5 : T27 5 = T27n5 := rfl
theorem t27n6 : T27 6 = T27n6 := rfl
theorem t27n7 : T27 7 = T27n7 := rfl
def X27 : XC := .seq (.ops [.mk (some 4) none (.k (.mov (.const (.bool false))))]) (.ref 7)
abbrev K27 : List Nat := [0, 1, 4, 5, 10, 14, 25]
theorem n27 : Try.f27.ntmps = 26 := by kernel_rfl
theorem r27 : resT Try.f27.results.toList = some [4] := by kernel_rfl
theorem x27 : cmpF Try.prog Try.f27 = some (expand T27 9 X27) := by kernel_rfl
def T51n0 : XC := .seq (.ops [.mk (some 2) none (.k (.mov (.const (.bool false))))]) .ret
def T51n1 : XC := .ops [.mk (some 8) none (.k (.mov (.tmp 3))), .mk (some 9) none (.k (.arith .add .i64 (.tmp 8) (.const (.int .i64 1)))), .mk (some 3) none (.k (.mov (.tmp 9)))]
def T51n2 : XC := .seq (.blk 1 (.seq (.ops [.mk (some 10) none (.k (.mov (.tmp 0))), .mk (some 11) none (.k (.mov (.tmp 3))), .mk (some 12) none (.k (.idx 3 (.tmp 10) (.tmp 11))), .mk (some 13) none (.k (.fld 0 (.tmp 12))), .mk (some 14) none (.k (.load [.int .i64] false (.tmp 13))), .mk (some 15) none (.k (.cmp .lss .i64 (.tmp 14) (.const (.int .i64 0)))), .mk (some 16) none (.k (.mov (.tmp 15))), .mk (some 17) (some (16, false)) (.k (.mov (.tmp 0))), .mk (some 18) (some (16, false)) (.k (.mov (.tmp 3))), .mk (some 19) (some (16, false)) (.k (.idx 3 (.tmp 17) (.tmp 18))), .mk (some 20) (some (16, false)) (.k (.fld 0 (.tmp 19))), .mk (some 21) (some (16, false)) (.k (.load [.int .i64] false (.tmp 20))), .mk (some 22) (some (16, false)) (.k (.cmp .geq .i64 (.tmp 21) (.const (.int .i64 4)))), .mk (some 23) none (.k (.pick (.tmp 16) (.const (.bool true)) (.tmp 22))), .mk (some 24) none (.k (.mov (.tmp 23))), .mk (some 25) (some (24, false)) (.k (.mov (.tmp 0))), .mk (some 26) (some (24, false)) (.k (.mov (.tmp 3))), .mk (some 27) (some (24, false)) (.k (.idx 3 (.tmp 25) (.tmp 26))), .mk (some 28) (some (24, false)) (.k (.fld 1 (.tmp 27))), .mk (some 29) (some (24, false)) (.k (.load [.int .i64] false (.tmp 28))), .mk (some 30) (some (24, false)) (.k (.cmp .lss .i64 (.tmp 29) (.const (.int .i64 1)))), .mk (some 31) none (.k (.pick (.tmp 24) (.const (.bool true)) (.tmp 30))), .mk (some 32) none (.k (.mov (.tmp 31))), .mk (some 33) (some (32, false)) (.k (.mov (.tmp 0))), .mk (some 34) (some (32, false)) (.k (.mov (.tmp 3))), .mk (some 35) (some (32, false)) (.k (.idx 3 (.tmp 33) (.tmp 34))), .mk (some 36) (some (32, false)) (.k (.fld 1 (.tmp 35))), .mk (some 37) (some (32, false)) (.k (.load [.int .i64] false (.tmp 36))), .mk (some 38) (some (32, false)) (.k (.cmp .gtr .i64 (.tmp 37) (.const (.int .i64 4)))), .mk (some 39) none (.k (.pick (.tmp 32) (.const (.bool true)) (.tmp 38))), .mk (some 40) none (.k (.mov (.tmp 39))), .mk (some 41) (some (40, false)) (.k (.mov (.tmp 0))), .mk (some 42) (some (40, false)) (.k (.mov (.tmp 3))), .mk (some 43) (some (40, false)) (.k (.idx 3 (.tmp 41) (.tmp 42))), .mk (some 44) (some (40, false)) (.k (.fld 2 (.tmp 43))), .mk (some 45) (some (40, false)) (.k (.load [.int .i64] false (.tmp 44))), .mk (some 46) (some (40, false)) (.k (.cmp .lss .i64 (.tmp 45) (.const (.int .i64 0)))), .mk (some 47) none (.k (.pick (.tmp 40) (.const (.bool true)) (.tmp 46)))]) (.cond (.tmp 47) (.ref 0) .skip))) (.ref 1)
def T51n3 : XC := .seq (.seq (.ops [.mk (some 4) none (.k (.mov (.tmp 3))), .mk (some 5) none (.k (.mov (.tmp 0))), .mk (some 6) none (.k (.lenS (.tmp 5))), .mk (some 7) none (.k (.cmp .lss .i64 (.tmp 4) (.tmp 6)))]) (.cond (.tmp 7) .skip (.exit 0))) (.ref 2)
def T51n4 : XC := .seq (.ops [.mk (some 48) none (.k (.mov (.tmp 0))), .mk (some 49) none (.k (.lenS (.tmp 48))), .mk (some 50) none (.k (.cmp .leq .i64 (.tmp 49) (.const (.int .i64 400)))), .mk (some 2) none (.k (.mov (.tmp 50)))]) .ret
def T51n5 : XC := .seq (.seq (.ops [.mk (some 3) none (.k (.mov (.const (.int .i64 0))))]) (.blk 0 (.loop (.ref 3)))) (.ref 4)
def T51 : Nat → XC
 | 0 => T51n0
 | 1 => T51n1
 | 2 => T51n2
 | 3 => T51n3
 | 4 => T51n4
 | 5 => T51n5
 | _ => .skip
theorem t51n0 : T51 0 = T51n0 := rfl
theorem t51n1 : T51 1 = T51n1 := rfl
theorem t51n2 : T51 2 = T51n2 := rfl
theorem t51n3 : T51 3 = T51n3 := rfl
theorem t51n4 : T51 4 = T51n4 := rfl
theorem t51n5 : T51 5 = T51n5 := rfl
def X51 : XC := .seq (.ops [.mk (some 2) none (.k (.mov (.const (.bool false))))]) (.ref 5)
abbrev K51 : List Nat := [0, 2, 3, 7, 47]
theorem n51 : Try.f51.ntmps = 51 := by kernel_rfl
theorem r51 : resT Try.f51.results.toList = some [2] := by kernel_rfl
theorem x51 : cmpF Try.prog Try.f51 = some (expand T51 7 X51) := by kernel_rfl
end Go.Proofs.Ytnedgfkgmdoahaa
