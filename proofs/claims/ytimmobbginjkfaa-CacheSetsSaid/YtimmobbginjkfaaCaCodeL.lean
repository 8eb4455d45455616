/- Printed by program: the small code of functions, and that it is theirs. -/
import Derived.Test.YtimmobbginjkfaaSxStill
import Derived.Test.YtimmobbginjkfaaProg
import Derived.KernelRfl
set_option linter.unusedSimpArgs false
set_option linter.unusedVariables false
set_option linter.unnecessarySimpa false
namespace Go.Proofs.Ytimmobbginjkfaa
open Go Go.Sx
set_option maxRecDepth 100000
def T3n0 : XC := .seq (.ops [.mk (some 43) none (.k (.mov (.tmp 7))), .mk (some 6) none (.k (.mov (.tmp 43)))]) .ret
def T3n1 : XC := .seq (.ops [.mk (some 6) none (.k (.mov (.const (.bool false))))]) .ret
def T3n2 : XC := .seq (.ops [.mk (some 95) none (.k (.mov (.tmp 14))), .mk (some 96) none (.k (.cmp .neq .i64 (.tmp 95) (.const (.int .i64 0)))), .mk (some 97) none (.k (.mov (.tmp 96))), .mk (some 98) (some (97, false)) (.k (.mov (.tmp 13))), .mk (some 99) (some (97, false)) (.k (.mov (.tmp 2))), .mk (some 100) (some (97, false)) (.k (.mov (.tmp 11))), .mk (some 101) (some (97, false)) (.k (.idx 2 (.tmp 99) (.tmp 100))), .mk (some 102) (some (97, false)) (.k (.fld 1 (.tmp 101))), .mk (some 103) (some (97, false)) (.k (.load [.int .u64] false (.tmp 102))), .mk (some 104) (some (97, false)) (.k (.cmp .neq .u64 (.tmp 98) (.tmp 103))), .mk (some 105) none (.k (.pick (.tmp 97) (.const (.bool true)) (.tmp 104)))]) (.cond (.tmp 105) (.ref 1) .skip)
def T3n3 : XC := .seq (.ops [.mk (some 86) none (.k (.mov (.tmp 8))), .mk (some 87) none (.k (.mov (.tmp 2))), .mk (some 88) none (.k (.mov (.tmp 11))), .mk (some 89) none (.k (.idx 2 (.tmp 87) (.tmp 88))), .mk (some 90) none (.k (.fld 0 (.tmp 89))), .mk (some 91) none (.k (.load [.int .i64] false (.tmp 90))), .mk (some 92) none (.call 14 [.tmp 86, .tmp 91]), .mk (some 85) none (.k (.mov (.tmp 92))), .mk (some 93) none (.k (.ext (.tmp 85) 0)), .mk (some 94) none (.k (.ext (.tmp 85) 1)), .mk (some 13) none (.k (.mov (.tmp 93))), .mk (some 14) none (.k (.mov (.tmp 94)))]) (.ref 2)
def T3n4 : XC := .seq (.ops [.mk (some 73) none (.k (.mov (.tmp 8))), .mk (some 74) none (.k (.mov (.tmp 2))), .mk (some 75) none (.k (.mov (.tmp 11))), .mk (some 76) none (.k (.idx 2 (.tmp 74) (.tmp 75))), .mk (some 77) none (.k (.fld 0 (.tmp 76))), .mk (some 78) none (.k (.load [.int .i64] false (.tmp 77))), .mk (some 79) none (.k (.mov (.tmp 2))), .mk (some 80) none (.k (.mov (.tmp 11))), .mk (some 81) none (.k (.idx 2 (.tmp 79) (.tmp 80))), .mk (some 82) none (.k (.fld 1 (.tmp 81))), .mk (some 83) none (.k (.load [.int .u64] false (.tmp 82))), .mk (some 84) none (.call 13 [.tmp 73, .tmp 78, .tmp 83])]) (.ref 3)
def T3n5 : XC := .seq (.ops [.mk (some 71) none (.k (.mov (.tmp 12))), .mk (some 72) none (.k (.cmp .eql .i64 (.tmp 71) (.const (.int .i64 0))))]) (.cond (.tmp 72) (.ref 4) .skip)
def T3n6 : XC := .seq (.ops [.mk (some 63) none (.k (.mov (.tmp 8))), .mk (some 64) none (.k (.mov (.tmp 2))), .mk (some 65) none (.k (.mov (.tmp 11))), .mk (some 66) none (.k (.idx 2 (.tmp 64) (.tmp 65))), .mk (some 67) none (.k (.fld 0 (.tmp 66))), .mk (some 68) none (.k (.load [.int .i64] false (.tmp 67))), .mk (some 69) none (.k (.div .quo .i64 (.tmp 68) (.const (.int .i64 8)))), .mk (some 70) none (.call 12 [.tmp 63, .tmp 69, .const (.bool true)]), .mk (some 12) none (.k (.mov (.tmp 70)))]) (.ref 5)
def T3n7 : XC := .ops [.mk (some 55) none (.k (.mov (.tmp 11))), .mk (some 56) none (.k (.arith .add .i64 (.tmp 55) (.const (.int .i64 1)))), .mk (some 11) none (.k (.mov (.tmp 56)))]
def T3n8 : XC := .seq (.blk 1 (.seq (.seq (.ops [.mk (some 57) none (.k (.mov (.tmp 2))), .mk (some 58) none (.k (.mov (.tmp 11))), .mk (some 59) none (.k (.idx 2 (.tmp 57) (.tmp 58))), .mk (some 60) none (.k (.fld 0 (.tmp 59))), .mk (some 61) none (.k (.load [.int .i64] false (.tmp 60))), .mk (some 62) none (.k (.cmp .lss .i64 (.tmp 61) (.const (.int .i64 0))))]) (.cond (.tmp 62) (.exit 1) .skip)) (.ref 6))) (.ref 7)
def T3n9 : XC := .seq (.seq (.ops [.mk (some 51) none (.k (.mov (.tmp 11))), .mk (some 52) none (.k (.mov (.tmp 2))), .mk (some 53) none (.k (.lenS (.tmp 52))), .mk (some 54) none (.k (.cmp .lss .i64 (.tmp 51) (.tmp 53)))]) (.cond (.tmp 54) .skip (.exit 0))) (.ref 8)
def T3n10 : XC := .seq (.ops [.mk (some 6) none (.k (.mov (.const (.bool false))))]) .ret
def T3n11 : XC := .seq (.ops [.mk (some 6) none (.k (.mov (.const (.bool false))))]) .ret
def T3n12 : XC := .seq (.ops [.mk (some 131) none (.k (.load [.int .i64, .int .i64, .bool, .bool, .int .u64, .int .u64, .int .u64, .int .u64, .int .u64, .int .u64, .int .u64, .int .u64, .int .u64, .int .u64, .int .u64, .int .u64, .int .u64, .int .u64, .int .u64, .int .u64, .int .i64] true (.tmp 17))), .mk (some 132) none (.k (.mov (.tmp 10))), .mk (some 133) none (.k (.mov (.tmp 16))), .mk (some 134) none (.k (.idx 21 (.tmp 132) (.tmp 133))), .mk (some 135) none (.k (.load [.int .i64, .int .i64, .bool, .bool, .int .u64, .int .u64, .int .u64, .int .u64, .int .u64, .int .u64, .int .u64, .int .u64, .int .u64, .int .u64, .int .u64, .int .u64, .int .u64, .int .u64, .int .u64, .int .u64, .int .i64] true (.tmp 134))), .mk (some 136) none (.k (.eqa true [.int .i64, .int .i64, .bool, .bool, .int .u64, .int .u64, .int .u64, .int .u64, .int .u64, .int .u64, .int .u64, .int .u64, .int .u64, .int .u64, .int .u64, .int .u64, .int .u64, .int .u64, .int .u64, .int .u64, .int .i64] (.tmp 131) (.tmp 135)))]) (.cond (.tmp 136) (.ref 11) .skip)
def T3n13 : XC := .seq (.ops [.mk (some 125) none (.k (.mov (.tmp 10))), .mk (some 126) none (.k (.mov (.tmp 16))), .mk (some 127) none (.k (.idx 21 (.tmp 125) (.tmp 126))), .mk (some 128) none (.k (.fld 20 (.tmp 127))), .mk (some 129) none (.k (.load [.int .i64] false (.tmp 128))), .mk (some 130) none (.k (.fld 20 (.tmp 17))), .mk none none (.k (.store 1 (.tmp 130) (.tmp 129)))]) (.ref 12)
def T3n14 : XC := .ops [.mk (some 119) none (.k (.mov (.tmp 16))), .mk (some 120) none (.k (.arith .add .i64 (.tmp 119) (.const (.int .i64 1)))), .mk (some 16) none (.k (.mov (.tmp 120)))]
def T3n15 : XC := .seq (.blk 3 (.seq (.ops [.mk (some 121) none (.k (.mov (.tmp 15))), .mk (some 122) none (.k (.mov (.tmp 16))), .mk (some 123) none (.k (.idx 21 (.tmp 121) (.tmp 122))), .mk (some 124) none (.k (.load [.int .i64, .int .i64, .bool, .bool, .int .u64, .int .u64, .int .u64, .int .u64, .int .u64, .int .u64, .int .u64, .int .u64, .int .u64, .int .u64, .int .u64, .int .u64, .int .u64, .int .u64, .int .u64, .int .u64, .int .i64] true (.tmp 123))), .mk (some 17) none (.k (.alloc 44 [.int .i64 0, .int .i64 0, .bool false, .bool false, .int .u64 0, .int .u64 0, .int .u64 0, .int .u64 0, .int .u64 0, .int .u64 0, .int .u64 0, .int .u64 0, .int .u64 0, .int .u64 0, .int .u64 0, .int .u64 0, .int .u64 0, .int .u64 0, .int .u64 0, .int .u64 0, .int .i64 0])), .mk none none (.k (.store 21 (.tmp 17) (.tmp 124)))]) (.ref 13))) (.ref 14)
def T3n16 : XC := .seq (.seq (.ops [.mk (some 115) none (.k (.mov (.tmp 16))), .mk (some 116) none (.k (.mov (.tmp 10))), .mk (some 117) none (.k (.lenS (.tmp 116))), .mk (some 118) none (.k (.cmp .lss .i64 (.tmp 115) (.tmp 117)))]) (.cond (.tmp 118) .skip (.exit 2))) (.ref 15)
def T3n17 : XC := .seq (.ops [.mk (some 137) none (.k (.mov (.tmp 7))), .mk (some 6) none (.k (.mov (.tmp 137)))]) .ret
def T3n18 : XC := .seq (.seq (.ops [.mk (some 16) none (.k (.mov (.const (.int .i64 0))))]) (.blk 2 (.loop (.ref 16)))) (.ref 17)
def T3n19 : XC := .seq (.seq (.ops [.mk (some 110) none (.k (.mov (.tmp 15))), .mk (some 111) none (.k (.lenS (.tmp 110))), .mk (some 112) none (.k (.mov (.tmp 10))), .mk (some 113) none (.k (.lenS (.tmp 112))), .mk (some 114) none (.k (.cmp .neq .i64 (.tmp 111) (.tmp 113)))]) (.cond (.tmp 114) (.ref 10) .skip)) (.ref 18)
def T3n20 : XC := .seq (.ops [.mk (some 108) none (.k (.mov (.tmp 8))), .mk (some 109) none (.call 11 [.tmp 108]), .mk (some 15) none (.k (.mov (.tmp 109)))]) (.ref 19)
def T3n21 : XC := .seq (.ops [.mk (some 106) none (.k (.mov (.tmp 8))), .mk (some 107) none (.call 15 [.tmp 106])]) (.ref 20)
def T3n22 : XC := .seq (.seq (.ops [.mk (some 11) none (.k (.mov (.const (.int .i64 0))))]) (.blk 0 (.loop (.ref 9)))) (.ref 21)
def T3n23 : XC := .seq (.ops [.mk (some 49) none (.k (.mov (.tmp 8))), .mk (some 50) none (.call 11 [.tmp 49]), .mk (some 10) none (.k (.mov (.tmp 50)))]) (.ref 22)
def T3n24 : XC := .seq (.ops [.mk (some 47) none (.k (.mov (.tmp 8))), .mk (some 48) none (.call 10 [.tmp 47])]) (.ref 23)
def T3n25 : XC := .seq (.ops [.mk (some 44) none (.k (.mov (.tmp 8))), .mk (some 45) none (.k (.mov (.tmp 1))), .mk (some 46) none (.call 9 [.tmp 44, .tmp 45])]) (.ref 24)
def T3n26 : XC := .seq (.seq (.ops [.mk (some 27) none (.k (.mov (.tmp 9))), .mk (some 28) none (.k (.cmp .neq .i64 (.tmp 27) (.const (.int .i64 0)))), .mk (some 29) none (.k (.mov (.tmp 28))), .mk (some 30) (some (29, false)) (.k (.mov (.tmp 1))), .mk (some 31) (some (29, false)) (.k (.lenS (.tmp 30))), .mk (some 32) (some (29, false)) (.k (.cmp .gtr .i64 (.tmp 31) (.const (.int .i64 400)))), .mk (some 33) none (.k (.pick (.tmp 29) (.const (.bool true)) (.tmp 32))), .mk (some 34) none (.k (.mov (.tmp 33))), .mk (some 35) (some (34, false)) (.k (.mov (.tmp 2))), .mk (some 36) (some (34, false)) (.k (.lenS (.tmp 35))), .mk (some 37) (some (34, false)) (.k (.cmp .gtr .i64 (.tmp 36) (.const (.int .i64 400)))), .mk (some 38) none (.k (.pick (.tmp 34) (.const (.bool true)) (.tmp 37))), .mk (some 39) none (.k (.mov (.tmp 38))), .mk (some 40) (some (39, false)) (.k (.mov (.tmp 7))), .mk (some 41) (some (39, false)) (.k (.not (.tmp 40))), .mk (some 42) none (.k (.pick (.tmp 39) (.const (.bool true)) (.tmp 41)))]) (.cond (.tmp 42) (.ref 0) .skip)) (.ref 25)
def T3n27 : XC := .seq (.ops [.mk (some 20) none (.k (.idxA 2 1 (.tmp 3) (.const (.int .i64 0)))), .mk (some 21) none (.k (.load [.int .i64] false (.tmp 20))), .mk (some 22) none (.k (.idxA 2 1 (.tmp 3) (.const (.int .i64 1)))), .mk (some 23) none (.k (.load [.int .i64] false (.tmp 22))), .mk (some 24) none (.call 8 [.tmp 21, .tmp 23]), .mk (some 19) none (.k (.mov (.tmp 24))), .mk (some 25) none (.k (.ext (.tmp 19) 0)), .mk (some 26) none (.k (.ext (.tmp 19) 1)), .mk (some 8) none (.k (.mov (.tmp 25))), .mk (some 9) none (.k (.mov (.tmp 26)))]) (.ref 26)
def T3n28 : XC := .seq (.ops [.mk (some 18) none (.call 7 []), .mk (some 7) none (.k (.mov (.tmp 18)))]) (.ref 27)
def T3 : Nat → XC
 | 0 => T3n0
 | 1 => T3n1
 | 2 => T3n2
 | 3 => T3n3
 | 4 => T3n4
 | 5 => T3n5
 | 6 => T3n6
 | 7 => T3n7
 | 8 => T3n8
 | 9 => T3n9
 | 10 => T3n10
 | 11 => T3n11
 | 12 => T3n12
 | 13 => T3n13
 | 14 => T3n14
 | 15 => T3n15
 | 16 => T3n16
 | 17 => T3n17
 | 18 => T3n18
 | 19 => T3n19
 | 20 => T3n20
 | 21 => T3n21
 | 22 => T3n22
 | 23 => T3n23
 | 24 => T3n24
 | 25 => T3n25
 | 26 => T3n26
 | 27 => T3n27
 | 28 => T3n28
 | _ => .skip
def X3 : XC := .seq (.ops [.mk (some 3) none (.k (.box 22 2 (.tmp 0))), .mk (some 6) none (.k (.mov (.const (.bool false))))]) (.ref 28)
theorem n3 : Try.f3.ntmps = 138 := by kernel_rfl
theorem r3 : resT Try.f3.results.toList = some [6] := by kernel_rfl
theorem x3 : cmpF Try.prog Try.f3 = some (expand T3 30 X3) := by kernel_rfl
theorem r4 : resT Try.f4.results.toList = some [6] := by kernel_rfl
def T6n0 : XC := .seq (.ops [.mk (some 44) none (.k (.mov (.tmp 7))), .mk (some 6) none (.k (.mov (.tmp 44)))]) .ret
def T6n1 : XC := .ops [.mk (some 78) none (.k (.mov (.tmp 12))), .mk (some 79) none (.k (.arith .add .i64 (.tmp 78) (.const (.int .i64 1)))), .mk (some 12) none (.k (.mov (.tmp 79)))]
def T6n2 : XC := .ops [.mk (some 61) none (.k (.mov (.tmp 13))), .mk (some 62) none (.k (.arith .add .i64 (.tmp 61) (.const (.int .i64 1)))), .mk (some 13) none (.k (.mov (.tmp 62)))]
def T6n3 : XC := .seq (.blk 3 (.seq (.ops [.mk (some 63) none (.k (.mov (.tmp 10))), .mk (some 64) none (.k (.mov (.tmp 13))), .mk (some 65) none (.k (.idx 21 (.tmp 63) (.tmp 64))), .mk (some 66) none (.k (.fld 0 (.tmp 65))), .mk (some 67) none (.k (.load [.int .i64] false (.tmp 66))), .mk (some 68) none (.k (.mov (.tmp 0))), .mk (some 69) none (.k (.div .rem .i64 (.tmp 67) (.tmp 68))), .mk (some 70) none (.k (.mov (.tmp 10))), .mk (some 71) none (.k (.mov (.tmp 11))), .mk (some 72) none (.k (.idx 21 (.tmp 70) (.tmp 71))), .mk (some 73) none (.k (.fld 0 (.tmp 72))), .mk (some 74) none (.k (.load [.int .i64] false (.tmp 73))), .mk (some 75) none (.k (.mov (.tmp 0))), .mk (some 76) none (.k (.div .rem .i64 (.tmp 74) (.tmp 75))), .mk (some 77) none (.k (.cmp .eql .i64 (.tmp 69) (.tmp 76)))]) (.cond (.tmp 77) (.ref 1) .skip))) (.ref 2)
def T6n4 : XC := .seq (.seq (.ops [.mk (some 57) none (.k (.mov (.tmp 13))), .mk (some 58) none (.k (.mov (.tmp 10))), .mk (some 59) none (.k (.lenS (.tmp 58))), .mk (some 60) none (.k (.cmp .lss .i64 (.tmp 57) (.tmp 59)))]) (.cond (.tmp 60) .skip (.exit 2))) (.ref 3)
def T6n5 : XC := .seq (.ops [.mk (some 6) none (.k (.mov (.const (.bool false))))]) .ret
def T6n6 : XC := .seq (.ops [.mk (some 80) none (.k (.mov (.tmp 12))), .mk (some 81) none (.k (.mov (.tmp 1))), .mk (some 82) none (.k (.cmp .gtr .i64 (.tmp 80) (.tmp 81))), .mk (some 83) none (.k (.mov (.tmp 82))), .mk (some 84) (some (83, false)) (.k (.mov (.tmp 11))), .mk (some 85) (some (83, false)) (.k (.cmp .gtr .i64 (.tmp 84) (.const (.int .i64 0)))), .mk (some 86) (some (83, false)) (.k (.mov (.tmp 85))), .mk (some 87) (some (86, true)) (.k (.mov (.tmp 10))), .mk (some 88) (some (86, true)) (.k (.mov (.tmp 11))), .mk (some 89) (some (86, true)) (.k (.idx 21 (.tmp 87) (.tmp 88))), .mk (some 90) (some (86, true)) (.k (.fld 0 (.tmp 89))), .mk (some 91) (some (86, true)) (.k (.load [.int .i64] false (.tmp 90))), .mk (some 92) (some (86, true)) (.k (.mov (.tmp 10))), .mk (some 93) (some (86, true)) (.k (.mov (.tmp 11))), .mk (some 94) (some (86, true)) (.k (.arith .sub .i64 (.tmp 93) (.const (.int .i64 1)))), .mk (some 95) (some (86, true)) (.k (.idx 21 (.tmp 92) (.tmp 94))), .mk (some 96) (some (86, true)) (.k (.fld 0 (.tmp 95))), .mk (some 97) (some (86, true)) (.k (.load [.int .i64] false (.tmp 96))), .mk (some 98) (some (86, true)) (.k (.cmp .leq .i64 (.tmp 91) (.tmp 97))), .mk (some 99) (some (83, false)) (.k (.pick (.tmp 86) (.tmp 98) (.const (.bool false)))), .mk (some 100) none (.k (.pick (.tmp 83) (.const (.bool true)) (.tmp 99))), .mk (some 101) none (.k (.mov (.tmp 100))), .mk (some 102) (some (101, false)) (.k (.mov (.tmp 10))), .mk (some 103) (some (101, false)) (.k (.mov (.tmp 11))), .mk (some 104) (some (101, false)) (.k (.idx 21 (.tmp 102) (.tmp 103))), .mk (some 105) (some (101, false)) (.k (.fld 1 (.tmp 104))), .mk (some 106) (some (101, false)) (.k (.load [.int .i64] false (.tmp 105))), .mk (some 107) (some (101, false)) (.k (.cmp .neq .i64 (.tmp 106) (.const (.int .i64 1)))), .mk (some 108) (some (101, false)) (.k (.mov (.tmp 107))), .mk (some 109) (some (108, true)) (.k (.mov (.tmp 10))), .mk (some 110) (some (108, true)) (.k (.mov (.tmp 11))), .mk (some 111) (some (108, true)) (.k (.idx 21 (.tmp 109) (.tmp 110))), .mk (some 112) (some (108, true)) (.k (.fld 1 (.tmp 111))), .mk (some 113) (some (108, true)) (.k (.load [.int .i64] false (.tmp 112))), .mk (some 114) (some (108, true)) (.k (.cmp .neq .i64 (.tmp 113) (.const (.int .i64 2)))), .mk (some 115) (some (101, false)) (.k (.pick (.tmp 108) (.tmp 114) (.const (.bool false)))), .mk (some 116) none (.k (.pick (.tmp 101) (.const (.bool true)) (.tmp 115)))]) (.cond (.tmp 116) (.ref 5) .skip)
def T6n7 : XC := .seq (.seq (.ops [.mk (some 13) none (.k (.mov (.const (.int .i64 0))))]) (.blk 2 (.loop (.ref 4)))) (.ref 6)
def T6n8 : XC := .ops [.mk (some 55) none (.k (.mov (.tmp 11))), .mk (some 56) none (.k (.arith .add .i64 (.tmp 55) (.const (.int .i64 1)))), .mk (some 11) none (.k (.mov (.tmp 56)))]
def T6n9 : XC := .seq (.blk 1 (.seq (.ops [.mk (some 12) none (.k (.mov (.const (.int .i64 0))))]) (.ref 7))) (.ref 8)
def T6n10 : XC := .seq (.seq (.ops [.mk (some 51) none (.k (.mov (.tmp 11))), .mk (some 52) none (.k (.mov (.tmp 10))), .mk (some 53) none (.k (.lenS (.tmp 52))), .mk (some 54) none (.k (.cmp .lss .i64 (.tmp 51) (.tmp 53)))]) (.cond (.tmp 54) .skip (.exit 0))) (.ref 9)
def T6n11 : XC := .seq (.ops [.mk (some 6) none (.k (.mov (.const (.bool false))))]) .ret
def T6n12 : XC := .seq (.ops [.mk (some 156) none (.k (.mov (.tmp 20))), .mk (some 157) none (.k (.mov (.tmp 19))), .mk (some 158) none (.k (.eqb false (.tmp 156) (.tmp 157))), .mk (some 159) none (.k (.mov (.tmp 158))), .mk (some 160) (some (159, false)) (.k (.mov (.tmp 19))), .mk (some 161) (some (159, false)) (.k (.mov (.tmp 160))), .mk (some 162) (some (161, true)) (.k (.load [.int .i64, .int .i64, .bool, .bool, .int .u64, .int .u64, .int .u64, .int .u64, .int .u64, .int .u64, .int .u64, .int .u64, .int .u64, .int .u64, .int .u64, .int .u64, .int .u64, .int .u64, .int .u64, .int .u64, .int .i64] true (.tmp 18))), .mk (some 163) (some (161, true)) (.k (.mov (.tmp 10))), .mk (some 164) (some (161, true)) (.k (.mov (.tmp 17))), .mk (some 165) (some (161, true)) (.k (.idx 21 (.tmp 163) (.tmp 164))), .mk (some 166) (some (161, true)) (.k (.load [.int .i64, .int .i64, .bool, .bool, .int .u64, .int .u64, .int .u64, .int .u64, .int .u64, .int .u64, .int .u64, .int .u64, .int .u64, .int .u64, .int .u64, .int .u64, .int .u64, .int .u64, .int .u64, .int .u64, .int .i64] true (.tmp 165))), .mk (some 167) (some (161, true)) (.k (.eqa true [.int .i64, .int .i64, .bool, .bool, .int .u64, .int .u64, .int .u64, .int .u64, .int .u64, .int .u64, .int .u64, .int .u64, .int .u64, .int .u64, .int .u64, .int .u64, .int .u64, .int .u64, .int .u64, .int .u64, .int .i64] (.tmp 162) (.tmp 166))), .mk (some 168) (some (159, false)) (.k (.pick (.tmp 161) (.tmp 167) (.const (.bool false)))), .mk (some 169) none (.k (.pick (.tmp 159) (.const (.bool true)) (.tmp 168))), .mk (some 170) none (.k (.mov (.tmp 169))), .mk (some 171) (some (170, false)) (.k (.mov (.tmp 20))), .mk (some 172) (some (170, false)) (.k (.mov (.tmp 171))), .mk (some 173) (some (172, true)) (.k (.fld 2 (.tmp 18))), .mk (some 174) (some (172, true)) (.k (.load [.bool] false (.tmp 173))), .mk (some 175) (some (172, true)) (.k (.mov (.tmp 174))), .mk (some 176) (some (175, false)) (.k (.fld 3 (.tmp 18))), .mk (some 177) (some (175, false)) (.k (.load [.bool] false (.tmp 176))), .mk (some 178) (some (172, true)) (.k (.pick (.tmp 175) (.const (.bool true)) (.tmp 177))), .mk (some 179) (some (172, true)) (.k (.mov (.tmp 178))), .mk (some 180) (some (179, false)) (.k (.fld 2 (.tmp 14))), .mk (some 181) (some (179, false)) (.k (.load [.bool] false (.tmp 180))), .mk (some 182) (some (172, true)) (.k (.pick (.tmp 179) (.const (.bool true)) (.tmp 181))), .mk (some 183) (some (172, true)) (.k (.mov (.tmp 182))), .mk (some 184) (some (183, false)) (.k (.fld 3 (.tmp 14))), .mk (some 185) (some (183, false)) (.k (.load [.bool] false (.tmp 184))), .mk (some 186) (some (172, true)) (.k (.pick (.tmp 183) (.const (.bool true)) (.tmp 185))), .mk (some 187) (some (172, true)) (.k (.mov (.tmp 186))), .mk (some 188) (some (187, false)) (.k (.mov (.tmp 16))), .mk (some 189) (some (187, false)) (.k (.cmp .neq .i64 (.tmp 188) (.const (.int .i64 0)))), .mk (some 190) (some (172, true)) (.k (.pick (.tmp 187) (.const (.bool true)) (.tmp 189))), .mk (some 191) (some (170, false)) (.k (.pick (.tmp 172) (.tmp 190) (.const (.bool false)))), .mk (some 192) none (.k (.pick (.tmp 170) (.const (.bool true)) (.tmp 191)))]) (.cond (.tmp 192) (.ref 11) .skip)
def T6n13 : XC := .seq (.ops [.mk (some 147) none (.k (.mov (.tmp 15))), .mk (some 148) none (.k (.mov (.tmp 147))), .mk (some 149) (some (148, true)) (.k (.load [.int .i64, .int .i64, .bool, .bool, .int .u64, .int .u64, .int .u64, .int .u64, .int .u64, .int .u64, .int .u64, .int .u64, .int .u64, .int .u64, .int .u64, .int .u64, .int .u64, .int .u64, .int .u64, .int .u64, .int .i64] true (.tmp 14))), .mk (some 150) (some (148, true)) (.k (.mov (.tmp 10))), .mk (some 151) (some (148, true)) (.k (.mov (.tmp 17))), .mk (some 152) (some (148, true)) (.k (.idx 21 (.tmp 150) (.tmp 151))), .mk (some 153) (some (148, true)) (.k (.load [.int .i64, .int .i64, .bool, .bool, .int .u64, .int .u64, .int .u64, .int .u64, .int .u64, .int .u64, .int .u64, .int .u64, .int .u64, .int .u64, .int .u64, .int .u64, .int .u64, .int .u64, .int .u64, .int .u64, .int .i64] true (.tmp 152))), .mk (some 154) (some (148, true)) (.k (.eqa false [.int .i64, .int .i64, .bool, .bool, .int .u64, .int .u64, .int .u64, .int .u64, .int .u64, .int .u64, .int .u64, .int .u64, .int .u64, .int .u64, .int .u64, .int .u64, .int .u64, .int .u64, .int .u64, .int .u64, .int .i64] (.tmp 149) (.tmp 153))), .mk (some 155) none (.k (.pick (.tmp 148) (.tmp 154) (.const (.bool false)))), .mk (some 20) none (.k (.mov (.tmp 155)))]) (.ref 12)
def T6n14 : XC := .ops [.mk (some 135) none (.k (.mov (.tmp 17))), .mk (some 136) none (.k (.arith .add .i64 (.tmp 135) (.const (.int .i64 1)))), .mk (some 17) none (.k (.mov (.tmp 136)))]
def T6n15 : XC := .seq (.blk 5 (.seq (.ops [.mk (some 138) none (.k (.mov (.tmp 8))), .mk (some 139) none (.k (.mov (.tmp 10))), .mk (some 140) none (.k (.mov (.tmp 17))), .mk (some 141) none (.k (.idx 21 (.tmp 139) (.tmp 140))), .mk (some 142) none (.k (.fld 0 (.tmp 141))), .mk (some 143) none (.k (.load [.int .i64] false (.tmp 142))), .mk (some 144) none (.call 20 [.tmp 138, .tmp 143]), .mk (some 137) none (.k (.mov (.tmp 144))), .mk (some 145) none (.k (.ext (.tmp 137) 0)), .mk (some 146) none (.k (.ext (.tmp 137) 1)), .mk (some 18) none (.k (.alloc 44 [.int .i64 0, .int .i64 0, .bool false, .bool false, .int .u64 0, .int .u64 0, .int .u64 0, .int .u64 0, .int .u64 0, .int .u64 0, .int .u64 0, .int .u64 0, .int .u64 0, .int .u64 0, .int .u64 0, .int .u64 0, .int .u64 0, .int .u64 0, .int .u64 0, .int .u64 0, .int .i64 0])), .mk none none (.k (.store 21 (.tmp 18) (.tmp 145))), .mk (some 19) none (.k (.mov (.tmp 146)))]) (.ref 13))) (.ref 14)
def T6n16 : XC := .seq (.seq (.ops [.mk (some 131) none (.k (.mov (.tmp 17))), .mk (some 132) none (.k (.mov (.tmp 10))), .mk (some 133) none (.k (.lenS (.tmp 132))), .mk (some 134) none (.k (.cmp .lss .i64 (.tmp 131) (.tmp 133)))]) (.cond (.tmp 134) .skip (.exit 4))) (.ref 15)
def T6n17 : XC := .seq (.ops [.mk (some 193) none (.k (.mov (.tmp 7))), .mk (some 6) none (.k (.mov (.tmp 193)))]) .ret
def T6n18 : XC := .seq (.seq (.ops [.mk (some 17) none (.k (.mov (.const (.int .i64 0))))]) (.blk 4 (.loop (.ref 16)))) (.ref 17)
def T6n19 : XC := .seq (.seq (.ops [.mk (some 11) none (.k (.mov (.const (.int .i64 0))))]) (.blk 0 (.loop (.ref 10)))) (.seq (.alt 18 (.seq (.mk (some 118) none (.k (.mov (.tmp 8)))) 0 (.seq (.mk (some 119) none (.k (.mov (.tmp 2)))) 1 (.seq (.mk (some 120) none (.k (.idx 13 (.tmp 119) (.const (.int .i64 0))))) 2 (.seq (.mk (some 121) none (.k (.fld 1 (.tmp 120)))) 3 (.seq (.mk (some 123) none (.k (.mov (.tmp 2)))) 5 (.seq (.mk (some 124) none (.k (.idx 13 (.tmp 123) (.const (.int .i64 0))))) 6 (.seq (.mk (some 125) none (.k (.fld 5 (.tmp 124)))) 7 (.seq (.mk (some 122) none (.k (.load [.int .i64] false (.tmp 121)))) 4 (.seq (.mk (some 126) none (.k (.load [.int .u64, .int .u64, .int .u64, .int .u64, .int .u64, .int .u64, .int .u64, .int .u64] true (.tmp 125)))) 8 (.alt (.seq (.mk (some 127) none (.call 19 [.tmp 118, .tmp 122, .const (.int .i64 1), .tmp 126])) 9 (.seq (.mk (some 117) none (.k (.mov (.tmp 127)))) 10 (.seq (.mk (some 128) none (.k (.ext (.tmp 117) 0))) 11 (.seq (.mk (some 129) none (.k (.ext (.tmp 117) 1))) 12 (.seq (.mk (some 130) none (.k (.ext (.tmp 117) 2))) 13 (.seq (.mk (some 14) none (.k (.alloc 44 [.int .i64 0, .int .i64 0, .bool false, .bool false, .int .u64 0, .int .u64 0, .int .u64 0, .int .u64 0, .int .u64 0, .int .u64 0, .int .u64 0, .int .u64 0, .int .u64 0, .int .u64 0, .int .u64 0, .int .u64 0, .int .u64 0, .int .u64 0, .int .u64 0, .int .u64 0, .int .i64 0]))) 14 (.seq (.mk none none (.k (.store 21 (.tmp 14) (.tmp 128)))) 15 (.seq (.mk (some 15) none (.k (.mov (.tmp 129)))) 16 (.seq (.mk (some 16) none (.k (.mov (.tmp 130)))) 17 .done))))))))) (.seq (.mk (some 14) none (.k (.alloc 44 [.int .i64 0, .int .i64 0, .bool false, .bool false, .int .u64 0, .int .u64 0, .int .u64 0, .int .u64 0, .int .u64 0, .int .u64 0, .int .u64 0, .int .u64 0, .int .u64 0, .int .u64 0, .int .u64 0, .int .u64 0, .int .u64 0, .int .u64 0, .int .u64 0, .int .u64 0, .int .i64 0]))) 14 (.seq (.mk (some 127) none (.call 19 [.tmp 118, .tmp 122, .const (.int .i64 1), .tmp 126])) 9 (.seq (.mk (some 117) none (.k (.mov (.tmp 127)))) 10 (.seq (.mk (some 128) none (.k (.ext (.tmp 117) 0))) 11 (.seq (.mk (some 129) none (.k (.ext (.tmp 117) 1))) 12 (.seq (.mk (some 130) none (.k (.ext (.tmp 117) 2))) 13 (.seq (.mk none none (.k (.store 21 (.tmp 14) (.tmp 128)))) 15 (.seq (.mk (some 15) none (.k (.mov (.tmp 129)))) 16 (.seq (.mk (some 16) none (.k (.mov (.tmp 130)))) 17 .done)))))))))))))))))))) (.ref 18))
def T6n20 : XC := .seq (.ops [.mk (some 49) none (.k (.mov (.tmp 8))), .mk (some 50) none (.call 11 [.tmp 49]), .mk (some 10) none (.k (.mov (.tmp 50)))]) (.ref 19)
def T6n21 : XC := .seq (.ops [.mk (some 45) none (.k (.mov (.tmp 8))), .mk (some 46) none (.k (.mov (.tmp 2))), .mk (some 47) none (.k (.sub 13 (.tmp 46) (some (.const (.int .i64 1))) none)), .mk (some 48) none (.call 9 [.tmp 45, .tmp 47])]) (.ref 20)
def T6n22 : XC := .seq (.seq (.ops [.mk (some 28) none (.k (.mov (.tmp 9))), .mk (some 29) none (.k (.cmp .neq .i64 (.tmp 28) (.const (.int .i64 0)))), .mk (some 30) none (.k (.mov (.tmp 29))), .mk (some 31) (some (30, false)) (.k (.mov (.tmp 2))), .mk (some 32) (some (30, false)) (.k (.lenS (.tmp 31))), .mk (some 33) (some (30, false)) (.k (.cmp .gtr .i64 (.tmp 32) (.const (.int .i64 600)))), .mk (some 34) none (.k (.pick (.tmp 30) (.const (.bool true)) (.tmp 33))), .mk (some 35) none (.k (.mov (.tmp 34))), .mk (some 36) (some (35, false)) (.k (.mov (.tmp 2))), .mk (some 37) (some (35, false)) (.k (.lenS (.tmp 36))), .mk (some 38) (some (35, false)) (.k (.cmp .eql .i64 (.tmp 37) (.const (.int .i64 0)))), .mk (some 39) none (.k (.pick (.tmp 35) (.const (.bool true)) (.tmp 38))), .mk (some 40) none (.k (.mov (.tmp 39))), .mk (some 41) (some (40, false)) (.k (.mov (.tmp 7))), .mk (some 42) (some (40, false)) (.k (.not (.tmp 41))), .mk (some 43) none (.k (.pick (.tmp 40) (.const (.bool true)) (.tmp 42)))]) (.cond (.tmp 43) (.ref 0) .skip)) (.ref 21)
def T6n23 : XC := .seq (.ops [.mk (some 23) none (.k (.mov (.tmp 0))), .mk (some 24) none (.k (.mov (.tmp 1))), .mk (some 25) none (.call 8 [.tmp 23, .tmp 24]), .mk (some 22) none (.k (.mov (.tmp 25))), .mk (some 26) none (.k (.ext (.tmp 22) 0)), .mk (some 27) none (.k (.ext (.tmp 22) 1)), .mk (some 8) none (.k (.mov (.tmp 26))), .mk (some 9) none (.k (.mov (.tmp 27)))]) (.ref 22)
def T6n24 : XC := .seq (.ops [.mk (some 21) none (.call 7 []), .mk (some 7) none (.k (.mov (.tmp 21)))]) (.ref 23)
def T6 : Nat → XC
 | 0 => T6n0
 | 1 => T6n1
 | 2 => T6n2
 | 3 => T6n3
 | 4 => T6n4
 | 5 => T6n5
 | 6 => T6n6
 | 7 => T6n7
 | 8 => T6n8
 | 9 => T6n9
 | 10 => T6n10
 | 11 => T6n11
 | 12 => T6n12
 | 13 => T6n13
 | 14 => T6n14
 | 15 => T6n15
 | 16 => T6n16
 | 17 => T6n17
 | 18 => T6n18
 | 19 => T6n19
 | 20 => T6n20
 | 21 => T6n21
 | 22 => T6n22
 | 23 => T6n23
 | 24 => T6n24
 | _ => .skip
theorem t6n0 : T6 0 = T6n0 := rfl
theorem t6n1 : T6 1 = T6n1 := rfl
theorem t6n2 : T6 2 = T6n2 := rfl
theorem t6n3 : T6 3 = T6n3 := rfl
theorem t6n4 : T6 4 = T6n4 := rfl
theorem t6n5 : T6 5 = T6n5 := rfl
theorem t6n6 : T6 6 = T6n6 := rfl
theorem t6n7 : T6 7 = T6n7 := rfl
theorem t6n8 : T6 8 = T6n8 := rfl
theorem t6n9 : T6 9 = T6n9 := rfl
theorem t6n10 : T6 10 = T6n10 := rfl
theorem t6n11 : T6 11 = T6n11 := rfl
theorem t6n12 : T6 12 = T6n12 := rfl
theorem t6n13 : T6 13 = T6n13 := rfl
theorem t6n14 : T6 14 = T6n14 := rfl
theorem t6n15 : T6 15 = T6n15 := rfl
theorem t6n16 : T6 16 = T6n16 := rfl
theorem t6n17 : T6 17 = T6n17 := rfl
theorem t6n18 : T6 18 = T6n18 := rfl
theorem t6n19 : T6 19 = T6n19 := rfl
theorem t6n20 : T6 20 = T6n20 := rfl
theorem t6n21 : T6 21 = T6n21 := rfl
theorem t6n22 : T6 22 = T6n22 := rfl
theorem t6n23 : T6 23 = T6n23 := rfl
theorem t6n24 : T6 24 = T6n24 := rfl
def X6 : XC := .seq (.ops [.mk (some 6) none (.k (.mov (.const (.bool false))))]) (.ref 24)
abbrev K6 : List Nat := [0, 1, 2, 6, 7, 8, 9, 10, 11, 12, 13, 14, 15, 16, 17, 18, 19, 20, 43, 54, 60, 77, 116, 117, 118, 119, 120, 121, 122, 123, 124, 125, 126, 127, 128, 129, 130, 134, 192]
theorem n6 : Try.f6.ntmps = 194 := by kernel_rfl
theorem r6 : resT Try.f6.results.toList = some [6] := by kernel_rfl
theorem x6 : cmpF Try.prog Try.f6 = some (expand T6 26 X6) := by kernel_rfl
def T7n0 : XC := .seq (.ops [.mk (some 44) none (.k (.mov (.tmp 2))), .mk (some 45) none (.k (.cmp .eql .i64 (.tmp 44) (.const (.int .i64 0)))), .mk (some 46) none (.k (.mov (.tmp 45))), .mk (some 47) (some (46, true)) (.k (.mov (.tmp 4))), .mk (some 48) (some (46, true)) (.k (.cmp .eql .i64 (.tmp 47) (.const (.int .i64 0)))), .mk (some 49) none (.k (.pick (.tmp 46) (.tmp 48) (.const (.bool false)))), .mk (some 50) none (.k (.mov (.tmp 49))), .mk (some 51) (some (50, true)) (.k (.mov (.tmp 7))), .mk (some 52) (some (50, true)) (.k (.cmp .eql .i64 (.tmp 51) (.const (.int .i64 0)))), .mk (some 53) none (.k (.pick (.tmp 50) (.tmp 52) (.const (.bool false)))), .mk (some 54) none (.k (.mov (.tmp 53))), .mk (some 55) (some (54, true)) (.k (.mov (.tmp 6))), .mk (some 56) none (.k (.pick (.tmp 54) (.tmp 55) (.const (.bool false)))), .mk (some 57) none (.k (.mov (.tmp 56))), .mk (some 58) (some (57, true)) (.k (.load [.int .i64, .int .i64, .bool, .bool, .int .u64, .int .u64, .int .u64, .int .u64, .int .u64, .int .u64, .int .u64, .int .u64, .int .u64, .int .u64, .int .u64, .int .u64, .int .u64, .int .u64, .int .u64, .int .u64, .int .i64] true (.tmp 5))), .mk (some 59) (some (57, true)) (.k (.build [.int .u64 0, .int .u64 0, .int .u64 0, .int .u64 0, .int .u64 0, .int .u64 0, .int .u64 0, .int .u64 0] [(0, 1, .const (.int .u64 1))])), .mk (some 60) (some (57, true)) (.k (.build [.int .i64 0, .int .i64 0, .bool false, .bool false, .int .u64 0, .int .u64 0, .int .u64 0, .int .u64 0, .int .u64 0, .int .u64 0, .int .u64 0, .int .u64 0, .int .u64 0, .int .u64 0, .int .u64 0, .int .u64 0, .int .u64 0, .int .u64 0, .int .u64 0, .int .u64 0, .int .i64 0] [(0, 1, .const (.int .i64 5)), (1, 1, .const (.int .i64 2)), (4, 8, .tmp 59), (20, 1, .const (.int .i64 2))])), .mk (some 61) (some (57, true)) (.k (.eqa false [.int .i64, .int .i64, .bool, .bool, .int .u64, .int .u64, .int .u64, .int .u64, .int .u64, .int .u64, .int .u64, .int .u64, .int .u64, .int .u64, .int .u64, .int .u64, .int .u64, .int .u64, .int .u64, .int .u64, .int .i64] (.tmp 58) (.tmp 60))), .mk (some 62) none (.k (.pick (.tmp 57) (.tmp 61) (.const (.bool false)))), .mk (some 63) none (.k (.mov (.tmp 62))), .mk (some 64) (some (63, true)) (.k (.mov (.tmp 10))), .mk (some 65) (some (63, true)) (.k (.cmp .eql .i64 (.tmp 64) (.const (.int .i64 22)))), .mk (some 66) none (.k (.pick (.tmp 63) (.tmp 65) (.const (.bool false)))), .mk (some 0) none (.k (.mov (.tmp 66)))]) .ret
def T7n1 : XC := .seq (.ops [.mk (some 38) none (.k (.mov (.tmp 1))), .mk (some 39) none (.k (.build [.int .u64 0, .int .u64 0, .int .u64 0, .int .u64 0, .int .u64 0, .int .u64 0, .int .u64 0, .int .u64 0] [])), .mk (some 40) none (.call 19 [.tmp 38, .const (.int .i64 9), .const (.int .i64 1), .tmp 39]), .mk (some 37) none (.k (.mov (.tmp 40))), .mk (some 41) none (.k (.ext (.tmp 37) 0)), .mk (some 42) none (.k (.ext (.tmp 37) 1)), .mk (some 43) none (.k (.ext (.tmp 37) 2)), .mk (some 8) none (.k (.alloc 44 [.int .i64 0, .int .i64 0, .bool false, .bool false, .int .u64 0, .int .u64 0, .int .u64 0, .int .u64 0, .int .u64 0, .int .u64 0, .int .u64 0, .int .u64 0, .int .u64 0, .int .u64 0, .int .u64 0, .int .u64 0, .int .u64 0, .int .u64 0, .int .u64 0, .int .u64 0, .int .i64 0])), .mk none none (.k (.store 21 (.tmp 8) (.tmp 41))), .mk (some 9) none (.k (.mov (.tmp 42))), .mk (some 10) none (.k (.mov (.tmp 43)))]) (.ref 0)
def T7n2 : XC := .seq (.ops [.mk (some 35) none (.k (.mov (.tmp 1))), .mk (some 36) none (.call 12 [.tmp 35, .const (.int .i64 7), .const (.bool false)])]) (.ref 1)
def T7n3 : XC := .seq (.ops [.mk (some 33) none (.k (.mov (.tmp 1))), .mk (some 34) none (.call 12 [.tmp 33, .const (.int .i64 0), .const (.bool false)])]) (.ref 2)
def T7n4 : XC := .seq (.ops [.mk (some 27) none (.k (.mov (.tmp 1))), .mk (some 28) none (.k (.build [.int .u64 0, .int .u64 0, .int .u64 0, .int .u64 0, .int .u64 0, .int .u64 0, .int .u64 0, .int .u64 0] [])), .mk (some 29) none (.call 19 [.tmp 27, .const (.int .i64 7), .const (.int .i64 1), .tmp 28]), .mk (some 26) none (.k (.mov (.tmp 29))), .mk (some 30) none (.k (.ext (.tmp 26) 0)), .mk (some 31) none (.k (.ext (.tmp 26) 1)), .mk (some 32) none (.k (.ext (.tmp 26) 2)), .mk (some 5) none (.k (.alloc 44 [.int .i64 0, .int .i64 0, .bool false, .bool false, .int .u64 0, .int .u64 0, .int .u64 0, .int .u64 0, .int .u64 0, .int .u64 0, .int .u64 0, .int .u64 0, .int .u64 0, .int .u64 0, .int .u64 0, .int .u64 0, .int .u64 0, .int .u64 0, .int .u64 0, .int .u64 0, .int .i64 0])), .mk none none (.k (.store 21 (.tmp 5) (.tmp 30))), .mk (some 6) none (.k (.mov (.tmp 31))), .mk (some 7) none (.k (.mov (.tmp 32)))]) (.ref 3)
def T7n5 : XC := .seq (.ops [.mk (some 22) none (.k (.mov (.tmp 1))), .mk (some 23) none (.call 14 [.tmp 22, .const (.int .i64 0)]), .mk (some 21) none (.k (.mov (.tmp 23))), .mk (some 24) none (.k (.ext (.tmp 21) 0)), .mk (some 25) none (.k (.ext (.tmp 21) 1)), .mk (some 3) none (.k (.mov (.tmp 24))), .mk (some 4) none (.k (.mov (.tmp 25)))]) (.ref 4)
def T7n6 : XC := .seq (.ops [.mk (some 18) none (.k (.mov (.tmp 1))), .mk (some 19) none (.k (.build [.int .u64 0, .int .u64 0, .int .u64 0, .int .u64 0, .int .u64 0, .int .u64 0, .int .u64 0, .int .u64 0] [(0, 1, .const (.int .u64 1))])), .mk (some 20) none (.call 19 [.tmp 18, .const (.int .i64 5), .const (.int .i64 2), .tmp 19])]) (.ref 5)
def T7n7 : XC := .seq (.ops [.mk (some 15) none (.k (.mov (.tmp 1))), .mk (some 16) none (.k (.build [.int .u64 0, .int .u64 0, .int .u64 0, .int .u64 0, .int .u64 0, .int .u64 0, .int .u64 0, .int .u64 0] [])), .mk (some 17) none (.call 19 [.tmp 15, .const (.int .i64 0), .const (.int .i64 1), .tmp 16])]) (.ref 6)
def T7n8 : XC := .seq (.ops [.mk (some 12) none (.call 8 [.const (.int .i64 1), .const (.int .i64 2)]), .mk (some 11) none (.k (.mov (.tmp 12))), .mk (some 13) none (.k (.ext (.tmp 11) 0)), .mk (some 14) none (.k (.ext (.tmp 11) 1)), .mk (some 1) none (.k (.mov (.tmp 13))), .mk (some 2) none (.k (.mov (.tmp 14)))]) (.ref 7)
def T7 : Nat → XC
 | 0 => T7n0
 | 1 => T7n1
 | 2 => T7n2
 | 3 => T7n3
 | 4 => T7n4
 | 5 => T7n5
 | 6 => T7n6
 | 7 => T7n7
 | 8 => T7n8
 | _ => .skip
theorem t7n0 : T7 0 = T7n0 := rfl
theorem t7n1 : T7 1 = T7n1 := rfl
theorem t7n2 : T7 2 = T7n2 := rfl
theorem t7n3 : T7 3 = T7n3 := rfl
theorem t7n4 : T7 4 = T7n4 := rfl
theorem t7n5 : T7 5 = T7n5 := rfl
theorem t7n6 : T7 6 = T7n6 := rfl
theorem t7n7 : T7 7 = T7n7 := rfl
theorem t7n8 : T7 8 = T7n8 := rfl
def X7 : XC := .seq (.ops [.mk (some 0) none (.k (.mov (.const (.bool false))))]) (.ref 8)
abbrev K7 : List Nat := [0, 1, 2, 4, 5, 6, 7, 10]
theorem n7 : Try.f7.ntmps = 67 := by kernel_rfl
theorem r7 : resT Try.f7.results.toList = some [0] := by kernel_rfl
theorem x7 : cmpF Try.prog Try.f7 = some (expand T7 10 X7) := by kernel_rfl
def T9n0 : XC := .ops [.mk (some 20) none (.k (.mov (.tmp 0))), .mk (some 21) none (.k (.fld 1 (.tmp 5))), .mk (some 22) none (.k (.load [.int .i64] false (.tmp 21))), .mk (some 23) none (.k (.fld 2 (.tmp 5))), .mk (some 24) none (.k (.load [.int .i64] false (.tmp 23))), .mk (some 25) none (.k (.fld 5 (.tmp 5))), .mk (some 26) none (.k (.load [.int .u64, .int .u64, .int .u64, .int .u64, .int .u64, .int .u64, .int .u64, .int .u64] true (.tmp 25))), .mk (some 27) none (.call 19 [.tmp 20, .tmp 22, .tmp 24, .tmp 26])]
def T9n1 : XC := .ops [.mk (some 30) none (.k (.mov (.tmp 0))), .mk (some 31) none (.k (.fld 1 (.tmp 5))), .mk (some 32) none (.k (.load [.int .i64] false (.tmp 31))), .mk (some 33) none (.call 14 [.tmp 30, .tmp 32])]
def T9n2 : XC := .ops [.mk (some 36) none (.k (.mov (.tmp 0))), .mk (some 37) none (.k (.fld 1 (.tmp 5))), .mk (some 38) none (.k (.load [.int .i64] false (.tmp 37))), .mk (some 39) none (.k (.fld 4 (.tmp 5))), .mk (some 40) none (.k (.load [.int .u64] false (.tmp 39))), .mk (some 41) none (.call 13 [.tmp 36, .tmp 38, .tmp 40])]
def T9n3 : XC := .ops [.mk (some 44) none (.k (.mov (.tmp 0))), .mk (some 45) none (.k (.fld 1 (.tmp 5))), .mk (some 46) none (.k (.load [.int .i64] false (.tmp 45))), .mk (some 47) none (.k (.fld 3 (.tmp 5))), .mk (some 48) none (.k (.load [.bool] false (.tmp 47))), .mk (some 49) none (.call 12 [.tmp 44, .tmp 46, .tmp 48])]
def T9n4 : XC := .ops [.mk (some 52) none (.k (.mov (.tmp 0))), .mk (some 53) none (.k (.fld 1 (.tmp 5))), .mk (some 54) none (.k (.load [.int .i64] false (.tmp 53))), .mk (some 55) none (.call 21 [.tmp 52, .tmp 54])]
def T9n5 : XC := .ops [.mk (some 58) none (.k (.mov (.tmp 0))), .mk (some 59) none (.k (.fld 1 (.tmp 5))), .mk (some 60) none (.k (.load [.int .i64] false (.tmp 59))), .mk (some 61) none (.k (.fld 5 (.tmp 5))), .mk (some 62) none (.k (.load [.int .u64, .int .u64, .int .u64, .int .u64, .int .u64, .int .u64, .int .u64, .int .u64] true (.tmp 61))), .mk (some 63) none (.call 22 [.tmp 58, .tmp 60, .tmp 62])]
def T9n6 : XC := .ops [.mk (some 66) none (.k (.mov (.tmp 0))), .mk (some 67) none (.k (.fld 1 (.tmp 5))), .mk (some 68) none (.k (.load [.int .i64] false (.tmp 67))), .mk (some 69) none (.call 23 [.tmp 66, .tmp 68])]
def T9n7 : XC := .cond (.tmp 74) (.ops [.mk (some 76) none (.k (.mov (.tmp 0))), .mk (some 77) none (.call 15 [.tmp 76])]) .skip
def T9n8 : XC := .seq (.ops [.mk (some 75) none (.k (.cmp .eql .i64 (.tmp 17) (.const (.int .i64 8)))), .mk (some 74) none (.k (.mov (.tmp 75)))]) (.ref 7)
def T9n9 : XC := .cond (.tmp 70) (.ops [.mk (some 72) none (.k (.mov (.tmp 0))), .mk (some 73) none (.call 10 [.tmp 72])]) (.ref 8)
def T9n10 : XC := .seq (.ops [.mk (some 71) none (.k (.cmp .eql .i64 (.tmp 17) (.const (.int .i64 7)))), .mk (some 70) none (.k (.mov (.tmp 71)))]) (.ref 9)
def T9n11 : XC := .seq (.ops [.mk (some 65) none (.k (.cmp .eql .i64 (.tmp 17) (.const (.int .i64 6)))), .mk (some 64) none (.k (.mov (.tmp 65)))]) (.cond (.tmp 64) (.ref 6) (.ref 10))
def T9n12 : XC := .seq (.ops [.mk (some 57) none (.k (.cmp .eql .i64 (.tmp 17) (.const (.int .i64 5)))), .mk (some 56) none (.k (.mov (.tmp 57)))]) (.cond (.tmp 56) (.ref 5) (.ref 11))
def T9n13 : XC := .seq (.ops [.mk (some 51) none (.k (.cmp .eql .i64 (.tmp 17) (.const (.int .i64 4)))), .mk (some 50) none (.k (.mov (.tmp 51)))]) (.cond (.tmp 50) (.ref 4) (.ref 12))
def T9n14 : XC := .seq (.ops [.mk (some 43) none (.k (.cmp .eql .i64 (.tmp 17) (.const (.int .i64 3)))), .mk (some 42) none (.k (.mov (.tmp 43)))]) (.cond (.tmp 42) (.ref 3) (.ref 13))
def T9n15 : XC := .seq (.ops [.mk (some 35) none (.k (.cmp .eql .i64 (.tmp 17) (.const (.int .i64 2)))), .mk (some 34) none (.k (.mov (.tmp 35)))]) (.cond (.tmp 34) (.ref 2) (.ref 14))
def T9n16 : XC := .seq (.ops [.mk (some 29) none (.k (.cmp .eql .i64 (.tmp 17) (.const (.int .i64 1)))), .mk (some 28) none (.k (.mov (.tmp 29)))]) (.cond (.tmp 28) (.ref 1) (.ref 15))
def T9n17 : XC := .blk 2 (.seq (.ops [.mk (some 19) none (.k (.cmp .eql .i64 (.tmp 17) (.const (.int .i64 0)))), .mk (some 18) none (.k (.mov (.tmp 19)))]) (.cond (.tmp 18) (.ref 0) (.ref 16)))
def T9n18 : XC := .seq (.ops [.mk (some 16) none (.k (.fld 0 (.tmp 5))), .mk (some 17) none (.k (.load [.int .i64] false (.tmp 16)))]) (.ref 17)
def T9n19 : XC := .ops [.mk (some 10) none (.k (.mov (.tmp 4))), .mk (some 11) none (.k (.arith .add .i64 (.tmp 10) (.const (.int .i64 1)))), .mk (some 4) none (.k (.mov (.tmp 11)))]
def T9n20 : XC := .seq (.blk 1 (.seq (.ops [.mk (some 12) none (.k (.mov (.tmp 1))), .mk (some 13) none (.k (.mov (.tmp 4))), .mk (some 14) none (.k (.idx 13 (.tmp 12) (.tmp 13))), .mk (some 15) none (.k (.load [.int .i64, .int .i64, .int .i64, .bool, .int .u64, .int .u64, .int .u64, .int .u64, .int .u64, .int .u64, .int .u64, .int .u64, .int .u64] true (.tmp 14))), .mk (some 5) none (.k (.alloc 53 [.int .i64 0, .int .i64 0, .int .i64 0, .bool false, .int .u64 0, .int .u64 0, .int .u64 0, .int .u64 0, .int .u64 0, .int .u64 0, .int .u64 0, .int .u64 0, .int .u64 0])), .mk none none (.k (.store 13 (.tmp 5) (.tmp 15)))]) (.ref 18))) (.ref 19)
def T9n21 : XC := .seq (.seq (.ops [.mk (some 6) none (.k (.mov (.tmp 4))), .mk (some 7) none (.k (.mov (.tmp 1))), .mk (some 8) none (.k (.lenS (.tmp 7))), .mk (some 9) none (.k (.cmp .lss .i64 (.tmp 6) (.tmp 8)))]) (.cond (.tmp 9) .skip (.exit 0))) (.ref 20)
def T9 : Nat → XC
 | 0 => T9n0
 | 1 => T9n1
 | 2 => T9n2
 | 3 => T9n3
 | 4 => T9n4
 | 5 => T9n5
 | 6 => T9n6
 | 7 => T9n7
 | 8 => T9n8
 | 9 => T9n9
 | 10 => T9n10
 | 11 => T9n11
 | 12 => T9n12
 | 13 => T9n13
 | 14 => T9n14
 | 15 => T9n15
 | 16 => T9n16
 | 17 => T9n17
 | 18 => T9n18
 | 19 => T9n19
 | 20 => T9n20
 | 21 => T9n21
 | _ => .skip
theorem t9n0 : T9 0 = T9n0 := rfl
theorem t9n1 : T9 1 = T9n1 := rfl
theorem t9n2 : T9 2 = T9n2 := rfl
theorem t9n3 : T9 3 = T9n3 := rfl
theorem t9n4 : T9 4 = T9n4 := rfl
theorem t9n5 : T9 5 = T9n5 := rfl
theorem t9n6 : T9 6 = T9n6 := rfl
theorem t9n7 : T9 7 = T9n7 := rfl
theorem t9n8 : T9 8 = T9n8 := rfl
theorem t9n9 : T9 9 = T9n9 := rfl
theorem t9n10 : T9 10 = T9n10 := rfl
theorem t9n11 : T9 11 = T9n11 := rfl
theorem t9n12 : T9 12 = T9n12 := rfl
theorem t9n13 : T9 13 = T9n13 := rfl
theorem t9n14 : T9 14 = T9n14 := rfl
theorem t9n15 : T9 15 = T9n15 := rfl
theorem t9n16 : T9 16 = T9n16 := rfl
theorem t9n17 : T9 17 = T9n17 := rfl
theorem t9n18 : T9 18 = T9n18 := rfl
theorem t9n19 : T9 19 = T9n19 := rfl
theorem t9n20 : T9 20 = T9n20 := rfl
theorem t9n21 : T9 21 = T9n21 := rfl
def X9 : XC := .seq (.ops [.mk (some 4) none (.k (.mov (.const (.int .i64 0))))]) (.blk 0 (.loop (.ref 21)))
abbrev K9 : List Nat := [0, 1, 4, 5, 9, 17, 18, 28, 34, 42, 50, 56, 64, 70, 74]
theorem n9 : Try.f9.ntmps = 78 := by kernel_rfl
theorem r9 : resT Try.f9.results.toList = some [] := by kernel_rfl
theorem x9 : cmpF Try.prog Try.f9 = some (expand T9 23 X9) := by kernel_rfl
end Go.Proofs.Ytimmobbginjkfaa
