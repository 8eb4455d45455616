/- Printed by program: the small code of functions, and that it is theirs. -/
import Derived.Test.YtimmobbginjkfaaSxStill
import Derived.Test.YtimmobbginjkfaaProg
import Derived.KernelRfl
set_option linter.unusedSimpArgs false
set_option linter.unusedVariables false
set_option linter.unnecessarySimpa false
namespace Go.Proofs.Ytimmobbginjkfaa
open Go Go.Sx
set_option maxRecDepth 100000
def T3n0 : XC := .seq (.ops [.mk (some 43) none (.k (.mov (.tmp 7))), .mk (some 6) none (.k (.mov (.tmp 43)))]) .ret
def T3n1 : XC := .seq (.ops [.mk (some 6) none (.k (.mov (.const (.bool false))))]) .ret
def T3n2 : XC := .seq (.ops [.mk (some 95) none (.k (.mov (.tmp 14))), .mk (some 96) none (.k (.cmp .neq .i64 (.tmp 95) (.const (.int .i64 0)))), .mk (some 97) none (.k (.mov (.tmp 96))), .mk (some 98) (some (97, false)) (.k (.mov (.tmp 13))), .mk (some 99) (some (97, false)) (.k (.mov (.tmp 2))), .mk (some 100) (some (97, false)) (.k (.mov (.tmp 11))), .mk (some 101) (some (97, false)) (.k (.idx 2 (.tmp 99) (.tmp 100))), .mk (some 102) (some (97, false)) (.k (.fld 1 (.tmp 101))), .mk (some 103) (some (97, false)) (.k (.load [.int .u64] false (.tmp 102))), .mk (some 104) (some (97, false)) (.k (.cmp .neq .u64 (.tmp 98) (.tmp 103))), .mk (some 105) none (.k (.pick (.tmp 97) (.const (.bool true)) (.tmp 104)))]) (.cond (.tmp 105) (.ref 1) .skip)
def T3n3 : XC := .seq (.ops [.mk (some 86) none (.k (.mov (.tmp 8))), .mk (some 87) none (.k (.mov (.tmp 2))), .mk (some 88) none (.k (.mov (.tmp 11))), .mk (some 89) none (.k (.idx 2 (.tmp 87) (.tmp 88))), .mk (some 90) none (.k (.fld 0 (.tmp 89))), .mk (some 91) none (.k (.load [.int .i64] false (.tmp 90))), .mk (some 92) none (.call 14 [.tmp 86, .tmp 91]), .mk (some 85) none (.k (.mov (.tmp 92))), .mk (some 93) none (.k (.ext (.tmp 85) 0)), .mk (some 94) none (.k (.ext (.tmp 85) 1)), .mk (some 13) none (.k (.mov (.tmp 93))), .mk (some 14) none (.k (.mov (.tmp 94)))]) (.ref 2)
def T3n4 : XC := .seq (.ops [.mk (some 73) none (.k (.mov (.tmp 8))), .mk (some 74) none (.k (.mov (.tmp 2))), .mk (some 75) none (.k (.mov (.tmp 11))), .mk (some 76) none (.k (.idx 2 (.tmp 74) (.tmp 75))), .mk (some 77) none (.k (.fld 0 (.tmp 76))), .mk (some 78) none (.k (.load [.int .i64] false (.tmp 77))), .mk (some 79) none (.k (.mov (.tmp 2))), .mk (some 80) none (.k (.mov (.tmp 11))), .mk (some 81) none (.k (.idx 2 (.tmp 79) (.tmp 80))), .mk (some 82) none (.k (.fld 1 (.tmp 81))), .mk (some 83) none (.k (.load [.int .u64] false (.tmp 82))), .mk (some 84) none (.call 13 [.tmp 73, .tmp 78, .tmp 83])]) (.ref 3)
def T3n5 : XC := .seq (.ops [.mk (some 71) none (.k (.mov (.tmp 12))), .mk (some 72) none (.k (.cmp .eql .i64 (.tmp 71) (.const (.int .i64 0))))]) (.cond (.tmp 72) (.ref 4) .skip)
def T3n6 : XC := .seq (.ops [.mk (some 63) none (.k (.mov (.tmp 8))), .mk (some 64) none (.k (.mov (.tmp 2))), .mk (some 65) none (.k (.mov (.tmp 11))), .mk (some 66) none (.k (.idx 2 (.tmp 64) (.tmp 65))), .mk (some 67) none (.k (.fld 0 (.tmp 66))), .mk (some 68) none (.k (.load [.int .i64] false (.tmp 67))), .mk (some 69) none (.k (.div .quo .i64 (.tmp 68) (.const (.int .i64 8)))), .mk (some 70) none (.call 12 [.tmp 63, .tmp 69, .const (.bool true)]), .mk (some 12) none (.k (.mov (.tmp 70)))]) (.ref 5)
def T3n7 : XC := .ops [.mk (some 55) none (.k (.mov (.tmp 11))), .mk (some 56) none (.k (.arith .add .i64 (.tmp 55) (.const (.int .i64 1)))), .mk (some 11) none (.k (.mov (.tmp 56)))]
def T3n8 : XC := .seq (.blk 1 (.seq (.seq (.ops [.mk (some 57) none (.k (.mov (.tmp 2))), .mk (some 58) none (.k (.mov (.tmp 11))), .mk (some 59) none (.k (.idx 2 (.tmp 57) (.tmp 58))), .mk (some 60) none (.k (.fld 0 (.tmp 59))), .mk (some 61) none (.k (.load [.int .i64] false (.tmp 60))), .mk (some 62) none (.k (.cmp .lss .i64 (.tmp 61) (.const (.int .i64 0))))]) (.cond (.tmp 62) (.exit 1) .skip)) (.ref 6))) (.ref 7)
def T3n9 : XC := .seq (.seq (.ops [.mk (some 51) none (.k (.mov (.tmp 11))), .mk (some 52) none (.k (.mov (.tmp 2))), .mk (some 53) none (.k (.lenS (.tmp 52))), .mk (some 54) none (.k (.cmp .lss .i64 (.tmp 51) (.tmp 53)))]) (.cond (.tmp 54) .skip (.exit 0))) (.ref 8)
def T3n10 : XC := .seq (.ops [.mk (some 6) none (.k (.mov (.const (.bool false))))]) .ret
def T3n11 : XC := .seq (.ops [.mk (some 6) none (.k (.mov (.const (.bool false))))]) .ret
def T3n12 : XC := .seq (.ops [.mk (some 131) none (.k (.load [.int .i64, .int .i64, .bool, .bool, .int .u64, .int .u64, .int .u64, .int .u64, .int .u64, .int .u64, .int .u64, .int .u64, .int .u64, .int .u64, .int .u64, .int .u64, .int .u64, .int .u64, .int .u64, .int .u64, .int .i64] true (.tmp 17))), .mk (some 132) none (.k (.mov (.tmp 10))), .mk (some 133) none (.k (.mov (.tmp 16))), .mk (some 134) none (.k (.idx 21 (.tmp 132) (.tmp 133))), .mk (some 135) none (.k (.load [.int .i64, .int .i64, .bool, .bool, .int .u64, .int .u64, .int .u64, .int .u64, .int .u64, .int .u64, .int .u64, .int .u64, .int .u64, .int .u64, .int .u64, .int .u64, .int .u64, .int .u64, .int .u64, .int .u64, .int .i64] true (.tmp 134))), .mk (some 136) none (.k (.eqa true [.int .i64, .int .i64, .bool, .bool, .int .u64, .int .u64, .int .u64, .int .u64, .int .u64, .int .u64, .int .u64, .int .u64, .int .u64, .int .u64, .int .u64, .int .u64, .int .u64, .int .u64, .int .u64, .int .u64, .int .i64] (.tmp 131) (.tmp 135)))]) (.cond (.tmp 136) (.ref 11) .skip)
def T3n13 : XC := .seq (.ops [.mk (some 125) none (.k (.mov (.tmp 10))), .mk (some 126) none (.k (.mov (.tmp 16))), .mk (some 127) none (.k (.idx 21 (.tmp 125) (.tmp 126))), .mk (some 128) none (.k (.fld 20 (.tmp 127))), .mk (some 129) none (.k (.load [.int .i64] false (.tmp 128))), .mk (some 130) none (.k (.fld 20 (.tmp 17))), .mk none none (.k (.store 1 (.tmp 130) (.tmp 129)))]) (.ref 12)
def T3n14 : XC := .ops [.mk (some 119) none (.k (.mov (.tmp 16))), .mk (some 120) none (.k (.arith .add .i64 (.tmp 119) (.const (.int .i64 1)))), .mk (some 16) none (.k (.mov (.tmp 120)))]
def T3n15 : XC := .seq (.blk 3 (.seq (.ops [.mk (some 121) none (.k (.mov (.tmp 15))), .mk (some 122) none (.k (.mov (.tmp 16))), .mk (some 123) none (.k (.idx 21 (.tmp 121) (.tmp 122))), .mk (some 124) none (.k (.load [.int .i64, .int .i64, .bool, .bool, .int .u64, .int .u64, .int .u64, .int .u64, .int .u64, .int .u64, .int .u64, .int .u64, .int .u64, .int .u64, .int .u64, .int .u64, .int .u64, .int .u64, .int .u64, .int .u64, .int .i64] true (.tmp 123))), .mk (some 17) none (.k (.alloc 44 [.int .i64 0, .int .i64 0, .bool false, .bool false, .int .u64 0, .int .u64 0, .int .u64 0, .int .u64 0, .int .u64 0, .int .u64 0, .int .u64 0, .int .u64 0, .int .u64 0, .int .u64 0, .int .u64 0, .int .u64 0, .int .u64 0, .int .u64 0, .int .u64 0, .int .u64 0, .int .i64 0])), .mk none none (.k (.store 21 (.tmp 17) (.tmp 124)))]) (.ref 13))) (.ref 14)
def T3n16 : XC := .seq (.seq (.ops [.mk (some 115) none (.k (.mov (.tmp 16))), .mk (some 116) none (.k (.mov (.tmp 10))), .mk (some 117) none (.k (.lenS (.tmp 116))), .mk (some 118) none (.k (.cmp .lss .i64 (.tmp 115) (.tmp 117)))]) (.cond (.tmp 118) .skip (.exit 2))) (.ref 15)
def T3n17 : XC := .seq (.ops [.mk (some 137) none (.k (.mov (.tmp 7))), .mk (some 6) none (.k (.mov (.tmp 137)))]) .ret
def T3n18 : XC := .seq (.seq (.ops [.mk (some 16) none (.k (.mov (.const (.int .i64 0))))]) (.blk 2 (.loop (.ref 16)))) (.ref 17)
def T3n19 : XC := .seq (.seq (.ops [.mk (some 110) none (.k (.mov (.tmp 15))), .mk (some 111) none (.k (.lenS (.tmp 110))), .mk (some 112) none (.k (.mov (.tmp 10))), .mk (some 113) none (.k (.lenS (.tmp 112))), .mk (some 114) none (.k (.cmp .neq .i64 (.tmp 111) (.tmp 113)))]) (.cond (.tmp 114) (.ref 10) .skip)) (.ref 18)
def T3n20 : XC := .seq (.ops [.mk (some 108) none (.k (.mov (.tmp 8))), .mk (some 109) none (.call 11 [.tmp 108]), .mk (some 15) none (.k (.mov (.tmp 109)))]) (.ref 19)
def T3n21 : XC := .seq (.ops [.mk (some 106) none (.k (.mov (.tmp 8))), .mk (some 107) none (.call 15 [.tmp 106])]) (.ref 20)
def T3n22 : XC := .seq (.seq (.ops [.mk (some 11) none (.k (.mov (.const (.int .i64 0))))]) (.blk 0 (.loop (.ref 9)))) (.ref 21)
def T3n23 : XC := .seq (.ops [.mk (some 49) none (.k (.mov (.tmp 8))), .mk (some 50) none (.call 11 [.tmp 49]), .mk (some 10) none (.k (.mov (.tmp 50)))]) (.ref 22)
def T3n24 : XC := .seq (.ops [.mk (some 47) none (.k (.mov (.tmp 8))), .mk (some 48) none (.call 10 [.tmp 47])]) (.ref 23)
def T3n25 : XC := .seq (.ops [.mk (some 44) none (.k (.mov (.tmp 8))), .mk (some 45) none (.k (.mov (.tmp 1))), .mk (some 46) none (.call 9 [.tmp 44, .tmp 45])]) (.ref 24)
def T3n26 : XC := .seq (.seq (.ops [.mk (some 27) none (.k (.mov (.tmp 9))), .mk (some 28) none (.k (.cmp .neq .i64 (.tmp 27) (.const (.int .i64 0)))), .mk (some 29) none (.k (.mov (.tmp 28))), .mk (some 30) (some (29, false)) (.k (.mov (.tmp 1))), .mk (some 31) (some (29, false)) (.k (.lenS (.tmp 30))), .mk (some 32) (some (29, false)) (.k (.cmp .gtr .i64 (.tmp 31) (.const (.int .i64 400)))), .mk (some 33) none (.k (.pick (.tmp 29) (.const (.bool true)) (.tmp 32))), .mk (some 34) none (.k (.mov (.tmp 33))), .mk (some 35) (some (34, false)) (.k (.mov (.tmp 2))), .mk (some 36) (some (34, false)) (.k (.lenS (.tmp 35))), .mk (some 37) (some (34, false)) (.k (.cmp .gtr .i64 (.tmp 36) (.const (.int .i64 400)))), .mk (some 38) none (.k (.pick (.tmp 34) (.const (.bool true)) (.tmp 37))), .mk (some 39) none (.k (.mov (.tmp 38))), .mk (some 40) (some (39, false)) (.k (.mov (.tmp 7))), .mk (some 41) (some (39, false)) (.k (.not (.tmp 40))), .mk (some 42) none (.k (.pick (.tmp 39) (.const (.bool true)) (.tmp 41)))]) (.cond (.tmp 42) (.ref 0) .skip)) (.ref 25)
def T3n27 : XC := .seq (.ops [.mk (some 20) none (.k (.idxA 2 1 (.tmp 3) (.const (.int .i64 0)))), .mk (some 21) none (.k (.load [.int .i64] false (.tmp 20))), .mk (some 22) none (.k (.idxA 2 1 (.tmp 3) (.const (.int .i64 1)))), .mk (some 23) none (.k (.load [.int .i64] false (.tmp 22))), .mk (some 24) none (.call 8 [.tmp 21, .tmp 23]), .mk (some 19) none (.k (.mov (.tmp 24))), .mk (some 25) none (.k (.ext (.tmp 19) 0)), .mk (some 26) none (.k (.ext (.tmp 19) 1)), .mk (some 8) none (.k (.mov (.tmp 25))), .mk (some 9) none (.k (.mov (.tmp 26)))]) (.ref 26)
def T3n28 : XC := .seq (.ops [.mk (some 18) none (.call 7 []), .mk (some 7) none (.k (.mov (.tmp 18)))]) (.ref 27)
def T3 : Nat → XC
 | 0 => T3n0
 | 1 => T3n1
 | 2 => T3n2
 | 3 => T3n3
 | 4 => T3n4
 | 5 => T3n5
 | 6 => T3n6
 | 7 => T3n7
 | 8 => T3n8
 | 9 => T3n9
 | 10 => T3n10
 | 11 => T3n11
 | 12 => T3n12
 | 13 => T3n13
 | 14 => T3n14
 | 15 => T3n15
 | 16 => T3n16
 | 17 => T3n17
 | 18 => T3n18
 | 19 => T3n19
 | 20 => T3n20
 | 21 => T3n21
 | 22 => T3n22
 | 23 => T3n23
 | 24 => T3n24
 | 25 => T3n25
 | 26 => T3n26
 | 27 => T3n27
 | 28 => T3n28
 | _ => .skip
theorem t3n0 : T3 0 = T3n0 := rfl
theorem t3n1 : T3 1 = T3n1 := rfl
theorem t3n2 : T3 2 = T3n2 := rfl
theorem t3n3 : T3 3 = T3n3 := rfl
theorem t3n4 : T3 4 = T3n4 := rfl
theorem t3n5 : T3 5 = T3n5 := rfl
theorem t3n6 : T3 6 = T3n6 := rfl
theorem t3n7 : T3 7 = T3n7 := rfl
theorem t3n8 : T3 8 = T3n8 := rfl
theorem t3n9 : T3 9 = T3n9 := rfl
theorem t3n10 : T3 10 = T3n10 := rfl
theorem t3n11 : T3 11 = T3n11 := rfl
theorem t3n12 : T3 12 = T3n12 := rfl
theorem t3n13 : T3 13 = T3n13 := rfl
theorem t3n14 : T3 14 = T3n14 := rfl
theorem t3n15 : T3 15 = T3n15 := rfl
theorem t3n16 : T3 16 = T3n16 := rfl
theorem t3n17 : T3 17 = T3n17 := rfl
theorem t3n18 : T3 18 = T3n18 := rfl
theorem t3n19 : T3 19 = T3n19 := rfl
theorem t3n20 : T3 20 = T3n20 := rfl
theorem t3n21 : T3 21 = T3n21 := rfl
theorem t3n22 : T3 22 = T3n22 := rfl
theorem t3n23 : T3 23 = T3n23 := rfl
theorem t3n24 : T3 24 = T3n24 := rfl
theorem t3n25 : T3 25 = T3n25 := rfl
theorem t3n26 : T3 26 = T3n26 := rfl
theorem t3n27 : T3 27 = T3n27 := rfl
theorem t3n28 : T3 28 = T3n28 := rfl
def X3 : XC := .seq (.ops [.mk (some 3) none (.k (.box 22 2 (.tmp 0))), .mk (some 6) none (.k (.mov (.const (.bool false))))]) (.ref 28)
abbrev K3 : List Nat := [0, 1, 2, 3, 6, 7, 8, 9, 10, 11, 12, 13, 14, 15, 16, 17, 42, 54, 62, 72, 105, 114, 118, 136]
theorem n3 : Try.f3.ntmps = 138 := by kernel_rfl
theorem r3 : resT Try.f3.results.toList = some [6] := by kernel_rfl
theorem x3 : cmpF Try.prog Try.f3 = some (expand T3 30 X3) := by kernel_rfl
theorem r4 : resT Try.f4.results.toList = some [6] := by kernel_rfl
theorem n6 : Try.f6.ntmps = 194 := by kernel_rfl
def T7n0 : XC := .seq (.ops [.mk (some 44) none (.k (.mov (.tmp 2))), .mk (some 45) none (.k (.cmp .eql .i64 (.tmp 44) (.const (.int .i64 0)))), .mk (some 46) none (.k (.mov (.tmp 45))), .mk (some 47) (some (46, true)) (.k (.mov (.tmp 4))), .mk (some 48) (some (46, true)) (.k (.cmp .eql .i64 (.tmp 47) (.const (.int .i64 0)))), .mk (some 49) none (.k (.pick (.tmp 46) (.tmp 48) (.const (.bool false)))), .mk (some 50) none (.k (.mov (.tmp 49))), .mk (some 51) (some (50, true)) (.k (.mov (.tmp 7))), .mk (some 52) (some (50, true)) (.k (.cmp .eql .i64 (.tmp 51) (.const (.int .i64 0)))), .mk (some 53) none (.k (.pick (.tmp 50) (.tmp 52) (.const (.bool false)))), .mk (some 54) none (.k (.mov (.tmp 53))), .mk (some 55) (some (54, true)) (.k (.mov (.tmp 6))), .mk (some 56) none (.k (.pick (.tmp 54) (.tmp 55) (.const (.bool false)))), .mk (some 57) none (.k (.mov (.tmp 56))), .mk (some 58) (some (57, true)) (.k (.load [.int .i64, .int .i64, .bool, .bool, .int .u64, .int .u64, .int .u64, .int .u64, .int .u64, .int .u64, .int .u64, .int .u64, .int .u64, .int .u64, .int .u64, .int .u64, .int .u64, .int .u64, .int .u64, .int .u64, .int .i64] true (.tmp 5))), .mk (some 59) (some (57, true)) (.k (.build [.int .u64 0, .int .u64 0, .int .u64 0, .int .u64 0, .int .u64 0, .int .u64 0, .int .u64 0, .int .u64 0] [(0, 1, .const (.int .u64 1))])), .mk (some 60) (some (57, true)) (.k (.build [.int .i64 0, .int .i64 0, .bool false, .bool false, .int .u64 0, .int .u64 0, .int .u64 0, .int .u64 0, .int .u64 0, .int .u64 0, .int .u64 0, .int .u64 0, .int .u64 0, .int .u64 0, .int .u64 0, .int .u64 0, .int .u64 0, .int .u64 0, .int .u64 0, .int .u64 0, .int .i64 0] [(0, 1, .const (.int .i64 5)), (1, 1, .const (.int .i64 2)), (4, 8, .tmp 59), (20, 1, .const (.int .i64 2))])), .mk (some 61) (some (57, true)) (.k (.eqa false [.int .i64, .int .i64, .bool, .bool, .int .u64, .int .u64, .int .u64, .int .u64, .int .u64, .int .u64, .int .u64, .int .u64, .int .u64, .int .u64, .int .u64, .int .u64, .int .u64, .int .u64, .int .u64, .int .u64, .int .i64] (.tmp 58) (.tmp 60))), .mk (some 62) none (.k (.pick (.tmp 57) (.tmp 61) (.const (.bool false)))), .mk (some 63) none (.k (.mov (.tmp 62))), .mk (some 64) (some (63, true)) (.k (.mov (.tmp 10))), .mk (some 65) (some (63, true)) (.k (.cmp .eql .i64 (.tmp 64) (.const (.int .i64 22)))), .mk (some 66) none (.k (.pick (.tmp 63) (.tmp 65) (.const (.bool false)))), .mk (some 0) none (.k (.mov (.tmp 66)))]) .ret
def T7n1 : XC := .seq (.ops [.mk (some 38) none (.k (.mov (.tmp 1))), .mk (some 39) none (.k (.build [.int .u64 0, .int .u64 0, .int .u64 0, .int .u64 0, .int .u64 0, .int .u64 0, .int .u64 0, .int .u64 0] [])), .mk (some 40) none (.call 19 [.tmp 38, .const (.int .i64 9), .const (.int .i64 1), .tmp 39]), .mk (some 37) none (.k (.mov (.tmp 40))), .mk (some 41) none (.k (.ext (.tmp 37) 0)), .mk (some 42) none (.k (.ext (.tmp 37) 1)), .mk (some 43) none (.k (.ext (.tmp 37) 2)), .mk (some 8) none (.k (.alloc 44 [.int .i64 0, .int .i64 0, .bool false, .bool false, .int .u64 0, .int .u64 0, .int .u64 0, .int .u64 0, .int .u64 0, .int .u64 0, .int .u64 0, .int .u64 0, .int .u64 0, .int .u64 0, .int .u64 0, .int .u64 0, .int .u64 0, .int .u64 0, .int .u64 0, .int .u64 0, .int .i64 0])), .mk none none (.k (.store 21 (.tmp 8) (.tmp 41))), .mk (some 9) none (.k (.mov (.tmp 42))), .mk (some 10) none (.k (.mov (.tmp 43)))]) (.ref 0)
def T7n2 : XC := .seq (.ops [.mk (some 35) none (.k (.mov (.tmp 1))), .mk (some 36) none (.call 12 [.tmp 35, .const (.int .i64 7), .const (.bool false)])]) (.ref 1)
def T7n3 : XC := .seq (.ops [.mk (some 33) none (.k (.mov (.tmp 1))), .mk (some 34) none (.call 12 [.tmp 33, .const (.int .i64 0), .const (.bool false)])]) (.ref 2)
def T7n4 : XC := .seq (.ops [.mk (some 27) none (.k (.mov (.tmp 1))), .mk (some 28) none (.k (.build [.int .u64 0, .int .u64 0, .int .u64 0, .int .u64 0, .int .u64 0, .int .u64 0, .int .u64 0, .int .u64 0] [])), .mk (some 29) none (.call 19 [.tmp 27, .const (.int .i64 7), .const (.int .i64 1), .tmp 28]), .mk (some 26) none (.k (.mov (.tmp 29))), .mk (some 30) none (.k (.ext (.tmp 26) 0)), .mk (some 31) none (.k (.ext (.tmp 26) 1)), .mk (some 32) none (.k (.ext (.tmp 26) 2)), .mk (some 5) none (.k (.alloc 44 [.int .i64 0, .int .i64 0, .bool false, .bool false, .int .u64 0, .int .u64 0, .int .u64 0, .int .u64 0, .int .u64 0, .int .u64 0, .int .u64 0, .int .u64 0, .int .u64 0, .int .u64 0, .int .u64 0, .int .u64 0, .int .u64 0, .int .u64 0, .int .u64 0, .int .u64 0, .int .i64 0])), .mk none none (.k (.store 21 (.tmp 5) (.tmp 30))), .mk (some 6) none (.k (.mov (.tmp 31))), .mk (some 7) none (.k (.mov (.tmp 32)))]) (.ref 3)
def T7n5 : XC := .seq (.ops [.mk (some 22) none (.k (.mov (.tmp 1))), .mk (some 23) none (.call 14 [.tmp 22, .const (.int .i64 0)]), .mk (some 21) none (.k (.mov (.tmp 23))), .mk (some 24) none (.k (.ext (.tmp 21) 0)), .mk (some 25) none (.k (.ext (.tmp 21) 1)), .mk (some 3) none (.k (.mov (.tmp 24))), .mk (some 4) none (.k (.mov (.tmp 25)))]) (.ref 4)
def T7n6 : XC := .seq (.ops [.mk (some 18) none (.k (.mov (.tmp 1))), .mk (some 19) none (.k (.build [.int .u64 0, .int .u64 0, .int .u64 0, .int .u64 0, .int .u64 0, .int .u64 0, .int .u64 0, .int .u64 0] [(0, 1, .const (.int .u64 1))])), .mk (some 20) none (.call 19 [.tmp 18, .const (.int .i64 5), .const (.int .i64 2), .tmp 19])]) (.ref 5)
def T7n7 : XC := .seq (.ops [.mk (some 15) none (.k (.mov (.tmp 1))), .mk (some 16) none (.k (.build [.int .u64 0, .int .u64 0, .int .u64 0, .int .u64 0, .int .u64 0, .int .u64 0, .int .u64 0, .int .u64 0] [])), .mk (some 17) none (.call 19 [.tmp 15, .const (.int .i64 0), .const (.int .i64 1), .tmp 16])]) (.ref 6)
def T7n8 : XC := .seq (.ops [.mk (some 12) none (.call 8 [.const (.int .i64 1), .const (.int .i64 2)]), .mk (some 11) none (.k (.mov (.tmp 12))), .mk (some 13) none (.k (.ext (.tmp 11) 0)), .mk (some 14) none (.k (.ext (.tmp 11) 1)), .mk (some 1) none (.k (.mov (.tmp 13))), .mk (some 2) none (.k (.mov (.tmp 14)))]) (.ref 7)
def T7 : Nat → XC
 | 0 => T7n0
 | 1 => T7n1
 | 2 => T7n2
 | 3 => T7n3
 | 4 => T7n4
 | 5 => T7n5
 | 6 => T7n6
 | 7 => T7n7
 | 8 => T7n8
 | _ => .skip
theorem t7n0 : T7 0 = T7n0 := rfl
theorem t7n1 : T7 1 = T7n1 := rfl
theorem t7n2 : T7 2 = T7n2 := rfl
theorem t7n3 : T7 3 = T7n3 := rfl
theorem t7n4 : T7 4 = T7n4 := rfl
theorem t7n5 : T7 5 = T7n5 := rfl
theorem t7n6 : T7 6 = T7n6 := rfl
theorem t7n7 : T7 7 = T7n7 := rfl
theorem t7n8 : T7 8 = T7n8 := rfl
def X7 : XC := .seq (.ops [.mk (some 0) none (.k (.mov (.const (.bool false))))]) (.ref 8)
abbrev K7 : List Nat := [0, 1, 2, 4, 5, 6, 7, 10]
theorem n7 : Try.f7.ntmps = 67 := by kernel_rfl
theorem r7 : resT Try.f7.results.toList = some [0] := by kernel_rfl
theorem x7 : cmpF Try.prog Try.f7 = some (expand T7 10 X7) := by kernel_rfl
def T9n0 : XC := .ops [.mk (some 20) none (.k (.mov (.tmp 0))), .mk (some 21) none (.k (.fld 1 (.tmp 5))), .mk (some 22) none (.k (.load [.int .i64] false (.tmp 21))), .mk (some 23) none (.k (.fld 2 (.tmp 5))), .mk (some 24) none (.k (.load [.int .i64] false (.tmp 23))), .mk (some 25) none (.k (.fld 5 (.tmp 5))), .mk (some 26) none (.k (.load [.int .u64, .int .u64, .int .u64, .int .u64, .int .u64, .int .u64, .int .u64, .int .u64] true (.tmp 25))), .mk (some 27) none (.call 19 [.tmp 20, .tmp 22, .tmp 24, .tmp 26])]
def T9n1 : XC := .ops [.mk (some 30) none (.k (.mov (.tmp 0))), .mk (some 31) none (.k (.fld 1 (.tmp 5))), .mk (some 32) none (.k (.load [.int .i64] false (.tmp 31))), .mk (some 33) none (.call 14 [.tmp 30, .tmp 32])]
def T9n2 : XC := .ops [.mk (some 36) none (.k (.mov (.tmp 0))), .mk (some 37) none (.k (.fld 1 (.tmp 5))), .mk (some 38) none (.k (.load [.int .i64] false (.tmp 37))), .mk (some 39) none (.k (.fld 4 (.tmp 5))), .mk (some 40) none (.k (.load [.int .u64] false (.tmp 39))), .mk (some 41) none (.call 13 [.tmp 36, .tmp 38, .tmp 40])]
def T9n3 : XC := .ops [.mk (some 44) none (.k (.mov (.tmp 0))), .mk (some 45) none (.k (.fld 1 (.tmp 5))), .mk (some 46) none (.k (.load [.int .i64] false (.tmp 45))), .mk (some 47) none (.k (.fld 3 (.tmp 5))), .mk (some 48) none (.k (.load [.bool] false (.tmp 47))), .mk (some 49) none (.call 12 [.tmp 44, .tmp 46, .tmp 48])]
def T9n4 : XC := .ops [.mk (some 52) none (.k (.mov (.tmp 0))), .mk (some 53) none (.k (.fld 1 (.tmp 5))), .mk (some 54) none (.k (.load [.int .i64] false (.tmp 53))), .mk (some 55) none (.call 21 [.tmp 52, .tmp 54])]
def T9n5 : XC := .ops [.mk (some 58) none (.k (.mov (.tmp 0))), .mk (some 59) none (.k (.fld 1 (.tmp 5))), .mk (some 60) none (.k (.load [.int .i64] false (.tmp 59))), .mk (some 61) none (.k (.fld 5 (.tmp 5))), .mk (some 62) none (.k (.load [.int .u64, .int .u64, .int .u64, .int .u64, .int .u64, .int .u64, .int .u64, .int .u64] true (.tmp 61))), .mk (some 63) none (.call 22 [.tmp 58, .tmp 60, .tmp 62])]
def T9n6 : XC := .ops [.mk (some 66) none (.k (.mov (.tmp 0))), .mk (some 67) none (.k (.fld 1 (.tmp 5))), .mk (some 68) none (.k (.load [.int .i64] false (.tmp 67))), .mk (some 69) none (.call 23 [.tmp 66, .tmp 68])]
def T9n7 : XC := .cond (.tmp 74) (.ops [.mk (some 76) none (.k (.mov (.tmp 0))), .mk (some 77) none (.call 15 [.tmp 76])]) .skip
def T9n8 : XC := .seq (.ops [.mk (some 75) none (.k (.cmp .eql .i64 (.tmp 17) (.const (.int .i64 8)))), .mk (some 74) none (.k (.mov (.tmp 75)))]) (.ref 7)
def T9n9 : XC := .cond (.tmp 70) (.ops [.mk (some 72) none (.k (.mov (.tmp 0))), .mk (some 73) none (.call 10 [.tmp 72])]) (.ref 8)
def T9n10 : XC := .seq (.ops [.mk (some 71) none (.k (.cmp .eql .i64 (.tmp 17) (.const (.int .i64 7)))), .mk (some 70) none (.k (.mov (.tmp 71)))]) (.ref 9)
def T9n11 : XC := .seq (.ops [.mk (some 65) none (.k (.cmp .eql .i64 (.tmp 17) (.const (.int .i64 6)))), .mk (some 64) none (.k (.mov (.tmp 65)))]) (.cond (.tmp 64) (.ref 6) (.ref 10))
def T9n12 : XC := .seq (.ops [.mk (some 57) none (.k (.cmp .eql .i64 (.tmp 17) (.const (.int .i64 5)))), .mk (some 56) none (.k (.mov (.tmp 57)))]) (.cond (.tmp 56) (.ref 5) (.ref 11))
def T9n13 : XC := .seq (.ops [.mk (some 51) none (.k (.cmp .eql .i64 (.tmp 17) (.const (.int .i64 4)))), .mk (some 50) none (.k (.mov (.tmp 51)))]) (.cond (.tmp 50) (.ref 4) (.ref 12))
def T9n14 : XC := .seq (.ops [.mk (some 43) none (.k (.cmp .eql .i64 (.tmp 17) (.const (.int .i64 3)))), .mk (some 42) none (.k (.mov (.tmp 43)))]) (.cond (.tmp 42) (.ref 3) (.ref 13))
def T9n15 : XC := .seq (.ops [.mk (some 35) none (.k (.cmp .eql .i64 (.tmp 17) (.const (.int .i64 2)))), .mk (some 34) none (.k (.mov (.tmp 35)))]) (.cond (.tmp 34) (.ref 2) (.ref 14))
def T9n16 : XC := .seq (.ops [.mk (some 29) none (.k (.cmp .eql .i64 (.tmp 17) (.const (.int .i64 1)))), .mk (some 28) none (.k (.mov (.tmp 29)))]) (.cond (.tmp 28) (.ref 1) (.ref 15))
def T9n17 : XC := .blk 2 (.seq (.ops [.mk (some 19) none (.k (.cmp .eql .i64 (.tmp 17) (.const (.int .i64 0)))), .mk (some 18) none (.k (.mov (.tmp 19)))]) (.cond (.tmp 18) (.ref 0) (.ref 16)))
def T9n18 : XC := .seq (.ops [.mk (some 16) none (.k (.fld 0 (.tmp 5))), .mk (some 17) none (.k (.load [.int .i64] false (.tmp 16)))]) (.ref 17)
def T9n19 : XC := .ops [.mk (some 10) none (.k (.mov (.tmp 4))), .mk (some 11) none (.k (.arith .add .i64 (.tmp 10) (.const (.int .i64 1)))), .mk (some 4) none (.k (.mov (.tmp 11)))]
def T9n20 : XC := .seq (.blk 1 (.seq (.ops [.mk (some 12) none (.k (.mov (.tmp 1))), .mk (some 13) none (.k (.mov (.tmp 4))), .mk (some 14) none (.k (.idx 13 (.tmp 12) (.tmp 13))), .mk (some 15) none (.k (.load [.int .i64, .int .i64, .int .i64, .bool, .int .u64, .int .u64, .int .u64, .int .u64, .int .u64, .int .u64, .int .u64, .int .u64, .int .u64] true (.tmp 14))), .mk (some 5) none (.k (.alloc 53 [.int .i64 0, .int .i64 0, .int .i64 0, .bool false, .int .u64 0, .int .u64 0, .int .u64 0, .int .u64 0, .int .u64 0, .int .u64 0, .int .u64 0, .int .u64 0, .int .u64 0])), .mk none none (.k (.store 13 (.tmp 5) (.tmp 15)))]) (.ref 18))) (.ref 19)
def T9n21 : XC := .seq (.seq (.ops [.mk (some 6) none (.k (.mov (.tmp 4))), .mk (some 7) none (.k (.mov (.tmp 1))), .mk (some 8) none (.k (.lenS (.tmp 7))), .mk (some 9) none (.k (.cmp .lss .i64 (.tmp 6) (.tmp 8)))]) (.cond (.tmp 9) .skip (.exit 0))) (.ref 20)
def T9 : Nat → XC
 | 0 => T9n0
 | 1 => T9n1
 | 2 => T9n2
 | 3 => T9n3
 | 4 => T9n4
 | 5 => T9n5
 | 6 => T9n6
 | 7 => T9n7
 | 8 => T9n8
 | 9 => T9n9
 | 10 => T9n10
 | 11 => T9n11
 | 12 => T9n12
 | 13 => T9n13
 | 14 => T9n14
 | 15 => T9n15
 | 16 => T9n16
 | 17 => T9n17
 | 18 => T9n18
 | 19 => T9n19
 | 20 => T9n20
 | 21 => T9n21
 | _ => .skip
theorem t9n0 : T9 0 = T9n0 := rfl
theorem t9n1 : T9 1 = T9n1 := rfl
theorem t9n2 : T9 2 = T9n2 := rfl
theorem t9n3 : T9 3 = T9n3 := rfl
theorem t9n4 : T9 4 = T9n4 := rfl
theorem t9n5 : T9 5 = T9n5 := rfl
theorem t9n6 : T9 6 = T9n6 := rfl
theorem t9n7 : T9 7 = T9n7 := rfl
theorem t9n8 : T9 8 = T9n8 := rfl
theorem t9n9 : T9 9 = T9n9 := rfl
theorem t9n10 : T9 10 = T9n10 := rfl
theorem t9n11 : T9 11 = T9n11 := rfl
theorem t9n12 : T9 12 = T9n12 := rfl
theorem t9n13 : T9 13 = T9n13 := rfl
theorem t9n14 : T9 14 = T9n14 := rfl
theorem t9n15 : T9 15 = T9n15 := rfl
theorem t9n16 : T9 16 = T9n16 := rfl
theorem t9n17 : T9 17 = T9n17 := rfl
theorem t9n18 : T9 18 = T9n18 := rfl
theorem t9n19 : T9 19 = T9n19 := rfl
theorem t9n20 : T9 20 = T9n20 := rfl
theorem t9n21 : T9 21 = T9n21 := rfl
def X9 : XC := .seq (.ops [.mk (some 4) none (.k (.mov (.const (.int .i64 0))))]) (.blk 0 (.loop (.ref 21)))
abbrev K9 : List Nat := [0, 1, 4, 5, 9, 17, 18, 28, 34, 42, 50, 56, 64, 70, 74]
theorem n9 : Try.f9.ntmps = 78 := by kernel_rfl
theorem r9 : resT Try.f9.results.toList = some [] := by kernel_rfl
theorem x9 : cmpF Try.prog Try.f9 = some (expand T9 23 X9) := by kernel_rfl
end Go.Proofs.Ytimmobbginjkfaa
