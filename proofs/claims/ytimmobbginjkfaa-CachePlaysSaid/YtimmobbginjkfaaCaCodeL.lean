/- Printed by program: the small code of functions, and that it is theirs. -/
import Derived.Test.YtimmobbginjkfaaSxStill
import Derived.Test.YtimmobbginjkfaaProg
import Derived.KernelRfl
set_option linter.unusedSimpArgs false
set_option linter.unusedVariables false
set_option linter.unnecessarySimpa false
namespace Go.Proofs.Ytimmobbginjkfaa
open Go Go.Sx
set_option maxRecDepth 100000
def T3n0 : XC := .seq (.ops [.mk (some 43) none (.k (.mov (.tmp 7))), .mk (some 6) none (.k (.mov (.tmp 43)))]) .ret
def T3n1 : XC := .seq (.ops [.mk (some 6) none (.k (.mov (.const (.bool false))))]) .ret
def T3n2 : XC := .seq (.ops [.mk (some 95) none (.k (.mov (.tmp 14))), .mk (some 96) none (.k (.cmp .neq .i64 (.tmp 95) (.const (.int .i64 0)))), .mk (some 97) none (.k (.mov (.tmp 96))), .mk (some 98) (some (97, false)) (.k (.mov (.tmp 13))), .mk (some 99) (some (97, false)) (.k (.mov (.tmp 2))), .mk (some 100) (some (97, false)) (.k (.mov (.tmp 11))), .mk (some 101) (some (97, false)) (.k (.idx 2 (.tmp 99) (.tmp 100))), .mk (some 102) (some (97, false)) (.k (.fld 1 (.tmp 101))), .mk (some 103) (some (97, false)) (.k (.load [.int .u64] false (.tmp 102))), .mk (some 104) (some (97, false)) (.k (.cmp .neq .u64 (.tmp 98) (.tmp 103))), .mk (some 105) none (.k (.pick (.tmp 97) (.const (.bool true)) (.tmp 104)))]) (.cond (.tmp 105) (.ref 1) .skip)
def T3n3 : XC := .seq (.ops [.mk (some 86) none (.k (.mov (.tmp 8))), .mk (some 87) none (.k (.mov (.tmp 2))), .mk (some 88) none (.k (.mov (.tmp 11))), .mk (some 89) none (.k (.idx 2 (.tmp 87) (.tmp 88))), .mk (some 90) none (.k (.fld 0 (.tmp 89))), .mk (some 91) none (.k (.load [.int .i64] false (.tmp 90))), .mk (some 92) none (.call 14 [.tmp 86, .tmp 91]), .mk (some 85) none (.k (.mov (.tmp 92))), .mk (some 93) none (.k (.ext (.tmp 85) 0)), .mk (some 94) none (.k (.ext (.tmp 85) 1)), .mk (some 13) none (.k (.mov (.tmp 93))), .mk (some 14) none (.k (.mov (.tmp 94)))]) (.ref 2)
def T3n4 : XC := .seq (.ops [.mk (some 73) none (.k (.mov (.tmp 8))), .mk (some 74) none (.k (.mov (.tmp 2))), .mk (some 75) none (.k (.mov (.tmp 11))), .mk (some 76) none (.k (.idx 2 (.tmp 74) (.tmp 75))), .mk (some 77) none (.k (.fld 0 (.tmp 76))), .mk (some 78) none (.k (.load [.int .i64] false (.tmp 77))), .mk (some 79) none (.k (.mov (.tmp 2))), .mk (some 80) none (.k (.mov (.tmp 11))), .mk (some 81) none (.k (.idx 2 (.tmp 79) (.tmp 80))), .mk (some 82) none (.k (.fld 1 (.tmp 81))), .mk (some 83) none (.k (.load [.int .u64] false (.tmp 82))), .mk (some 84) none (.call 13 [.tmp 73, .tmp 78, .tmp 83])]) (.ref 3)
def T3n5 : XC := .seq (.ops [.mk (some 71) none (.k (.mov (.tmp 12))), .mk (some 72) none (.k (.cmp .eql .i64 (.tmp 71) (.const (.int .i64 0))))]) (.cond (.tmp 72) (.ref 4) .skip)
def T3n6 : XC := .seq (.ops [.mk (some 63) none (.k (.mov (.tmp 8))), .mk (some 64) none (.k (.mov (.tmp 2))), .mk (some 65) none (.k (.mov (.tmp 11))), .mk (some 66) none (.k (.idx 2 (.tmp 64) (.tmp 65))), .mk (some 67) none (.k (.fld 0 (.tmp 66))), .mk (some 68) none (.k (.load [.int .i64] false (.tmp 67))), .mk (some 69) none (.k (.div .quo .i64 (.tmp 68) (.const (.int .i64 8)))), .mk (some 70) none (.call 12 [.tmp 63, .tmp 69, .const (.bool true)]), .mk (some 12) none (.k (.mov (.tmp 70)))]) (.ref 5)
def T3n7 : XC := .ops [.mk (some 55) none (.k (.mov (.tmp 11))), .mk (some 56) none (.k (.arith .add .i64 (.tmp 55) (.const (.int .i64 1)))), .mk (some 11) none (.k (.mov (.tmp 56)))]
def T3n8 : XC := .seq (.blk 1 (.seq (.seq (.ops [.mk (some 57) none (.k (.mov (.tmp 2))), .mk (some 58) none (.k (.mov (.tmp 11))), .mk (some 59) none (.k (.idx 2 (.tmp 57) (.tmp 58))), .mk (some 60) none (.k (.fld 0 (.tmp 59))), .mk (some 61) none (.k (.load [.int .i64] false (.tmp 60))), .mk (some 62) none (.k (.cmp .lss .i64 (.tmp 61) (.const (.int .i64 0))))]) (.cond (.tmp 62) (.exit 1) .skip)) (.ref 6))) (.ref 7)
def T3n9 : XC := .seq (.seq (.ops [.mk (some 51) none (.k (.mov (.tmp 11))), .mk (some 52) none (.k (.mov (.tmp 2))), .mk (some 53) none (.k (.lenS (.tmp 52))), .mk (some 54) none (.k (.cmp .lss .i64 (.tmp 51) (.tmp 53)))]) (.cond (.tmp 54) .skip (.exit 0))) (.ref 8)
def T3n10 : XC := .seq (.ops [.mk (some 6) none (.k (.mov (.const (.bool false))))]) .ret
def T3n11 : XC := .seq (.ops [.mk (some 6) none (.k (.mov (.const (.bool false))))]) .ret
def T3n12 : XC := .seq (.ops [.mk (some 131) none (.k (.load [.int .i64, .int .i64, .bool, .bool, .int .u64, .int .u64, .int .u64, .int .u64, .int .u64, .int .u64, .int .u64, .int .u64, .int .u64, .int .u64, .int .u64, .int .u64, .int .u64, .int .u64, .int .u64, .int .u64, .int .i64] true (.tmp 17))), .mk (some 132) none (.k (.mov (.tmp 10))), .mk (some 133) none (.k (.mov (.tmp 16))), .mk (some 134) none (.k (.idx 21 (.tmp 132) (.tmp 133))), .mk (some 135) none (.k (.load [.int .i64, .int .i64, .bool, .bool, .int .u64, .int .u64, .int .u64, .int .u64, .int .u64, .int .u64, .int .u64, .int .u64, .int .u64, .int .u64, .int .u64, .int .u64, .int .u64, .int .u64, .int .u64, .int .u64, .int .i64] true (.tmp 134))), .mk (some 136) none (.k (.eqa true [.int .i64, .int .i64, .bool, .bool, .int .u64, .int .u64, .int .u64, .int .u64, .int .u64, .int .u64, .int .u64, .int .u64, .int .u64, .int .u64, .int .u64, .int .u64, .int .u64, .int .u64, .int .u64, .int .u64, .int .i64] (.tmp 131) (.tmp 135)))]) (.cond (.tmp 136) (.ref 11) .skip)
def T3n13 : XC := .seq (.ops [.mk (some 125) none (.k (.mov (.tmp 10))), .mk (some 126) none (.k (.mov (.tmp 16))), .mk (some 127) none (.k (.idx 21 (.tmp 125) (.tmp 126))), .mk (some 128) none (.k (.fld 20 (.tmp 127))), .mk (some 129) none (.k (.load [.int .i64] false (.tmp 128))), .mk (some 130) none (.k (.fld 20 (.tmp 17))), .mk none none (.k (.store 1 (.tmp 130) (.tmp 129)))]) (.ref 12)
def T3n14 : XC := .ops [.mk (some 119) none (.k (.mov (.tmp 16))), .mk (some 120) none (.k (.arith .add .i64 (.tmp 119) (.const (.int .i64 1)))), .mk (some 16) none (.k (.mov (.tmp 120)))]
def T3n15 : XC := .seq (.blk 3 (.seq (.ops [.mk (some 121) none (.k (.mov (.tmp 15))), .mk (some 122) none (.k (.mov (.tmp 16))), .mk (some 123) none (.k (.idx 21 (.tmp 121) (.tmp 122))), .mk (some 124) none (.k (.load [.int .i64, .int .i64, .bool, .bool, .int .u64, .int .u64, .int .u64, .int .u64, .int .u64, .int .u64, .int .u64, .int .u64, .int .u64, .int .u64, .int .u64, .int .u64, .int .u64, .int .u64, .int .u64, .int .u64, .int .i64] true (.tmp 123))), .mk (some 17) none (.k (.alloc 44 [.int .i64 0, .int .i64 0, .bool false, .bool false, .int .u64 0, .int .u64 0, .int .u64 0, .int .u64 0, .int .u64 0, .int .u64 0, .int .u64 0, .int .u64 0, .int .u64 0, .int .u64 0, .int .u64 0, .int .u64 0, .int .u64 0, .int .u64 0, .int .u64 0, .int .u64 0, .int .i64 0])), .mk none none (.k (.store 21 (.tmp 17) (.tmp 124)))]) (.ref 13))) (.ref 14)
def T3n16 : XC := .seq (.seq (.ops [.mk (some 115) none (.k (.mov (.tmp 16))), .mk (some 116) none (.k (.mov (.tmp 10))), .mk (some 117) none (.k (.lenS (.tmp 116))), .mk (some 118) none (.k (.cmp .lss .i64 (.tmp 115) (.tmp 117)))]) (.cond (.tmp 118) .skip (.exit 2))) (.ref 15)
def T3n17 : XC := .seq (.ops [.mk (some 137) none (.k (.mov (.tmp 7))), .mk (some 6) none (.k (.mov (.tmp 137)))]) .ret
def T3n18 : XC := .seq (.seq (.ops [.mk (some 16) none (.k (.mov (.const (.int .i64 0))))]) (.blk 2 (.loop (.ref 16)))) (.ref 17)
def T3n19 : XC := .seq (.seq (.ops [.mk (some 110) none (.k (.mov (.tmp 15))), .mk (some 111) none (.k (.lenS (.tmp 110))), .mk (some 112) none (.k (.mov (.tmp 10))), .mk (some 113) none (.k (.lenS (.tmp 112))), .mk (some 114) none (.k (.cmp .neq .i64 (.tmp 111) (.tmp 113)))]) (.cond (.tmp 114) (.ref 10) .skip)) (.ref 18)
def T3n20 : XC := .seq (.ops [.mk (some 108) none (.k (.mov (.tmp 8))), .mk (some 109) none (.call 11 [.tmp 108]), .mk (some 15) none (.k (.mov (.tmp 109)))]) (.ref 19)
def T3n21 : XC := .seq (.ops [.mk (some 106) none (.k (.mov (.tmp 8))), .mk (some 107) none (.call 15 [.tmp 106])]) (.ref 20)
def T3n22 : XC := .seq (.seq (.ops [.mk (some 11) none (.k (.mov (.const (.int .i64 0))))]) (.blk 0 (.loop (.ref 9)))) (.ref 21)
def T3n23 : XC := .seq (.ops [.mk (some 49) none (.k (.mov (.tmp 8))), .mk (some 50) none (.call 11 [.tmp 49]), .mk (some 10) none (.k (.mov (.tmp 50)))]) (.ref 22)
def T3n24 : XC := .seq (.ops [.mk (some 47) none (.k (.mov (.tmp 8))), .mk (some 48) none (.call 10 [.tmp 47])]) (.ref 23)
def T3n25 : XC := .seq (.ops [.mk (some 44) none (.k (.mov (.tmp 8))), .mk (some 45) none (.k (.mov (.tmp 1))), .mk (some 46) none (.call 9 [.tmp 44, .tmp 45])]) (.ref 24)
def T3n26 : XC := .seq (.seq (.ops [.mk (some 27) none (.k (.mov (.tmp 9))), .mk (some 28) none (.k (.cmp .neq .i64 (.tmp 27) (.const (.int .i64 0)))), .mk (some 29) none (.k (.mov (.tmp 28))), .mk (some 30) (some (29, false)) (.k (.mov (.tmp 1))), .mk (some 31) (some (29, false)) (.k (.lenS (.tmp 30))), .mk (some 32) (some (29, false)) (.k (.cmp .gtr .i64 (.tmp 31) (.const (.int .i64 400)))), .mk (some 33) none (.k (.pick (.tmp 29) (.const (.bool true)) (.tmp 32))), .mk (some 34) none (.k (.mov (.tmp 33))), .mk (some 35) (some (34, false)) (.k (.mov (.tmp 2))), .mk (some 36) (some (34, false)) (.k (.lenS (.tmp 35))), .mk (some 37) (some (34, false)) (.k (.cmp .gtr .i64 (.tmp 36) (.const (.int .i64 400)))), .mk (some 38) none (.k (.pick (.tmp 34) (.const (.bool true)) (.tmp 37))), .mk (some 39) none (.k (.mov (.tmp 38))), .mk (some 40) (some (39, false)) (.k (.mov (.tmp 7))), .mk (some 41) (some (39, false)) (.k (.not (.tmp 40))), .mk (some 42) none (.k (.pick (.tmp 39) (.const (.bool true)) (.tmp 41)))]) (.cond (.tmp 42) (.ref 0) .skip)) (.ref 25)
def T3n27 : XC := .seq (.ops [.mk (some 20) none (.k (.idxA 2 1 (.tmp 3) (.const (.int .i64 0)))), .mk (some 21) none (.k (.load [.int .i64] false (.tmp 20))), .mk (some 22) none (.k (.idxA 2 1 (.tmp 3) (.const (.int .i64 1)))), .mk (some 23) none (.k (.load [.int .i64] false (.tmp 22))), .mk (some 24) none (.call 8 [.tmp 21, .tmp 23]), .mk (some 19) none (.k (.mov (.tmp 24))), .mk (some 25) none (.k (.ext (.tmp 19) 0)), .mk (some 26) none (.k (.ext (.tmp 19) 1)), .mk (some 8) none (.k (.mov (.tmp 25))), .mk (some 9) none (.k (.mov (.tmp 26)))]) (.ref 26)
def T3n28 : XC := .seq (.ops [.mk (some 18) none (.call 7 []), .mk (some 7) none (.k (.mov (.tmp 18)))]) (.ref 27)
def T3 : Nat → XC
 | 0 => T3n0
 | 1 => T3n1
 | 2 => T3n2
 | 3 => T3n3
 | 4 => T3n4
 | 5 => T3n5
 | 6 => T3n6
 | 7 => T3n7
 | 8 => T3n8
 | 9 => T3n9
 | 10 => T3n10
 | 11 => T3n11
 | 12 => T3n12
 | 13 => T3n13
 | 14 => T3n14
 | 15 => T3n15
 | 16 => T3n16
 | 17 => T3n17
 | 18 => T3n18
 | 19 => T3n19
 | 20 => T3n20
 | 21 => T3n21
 | 22 => T3n22
 | 23 => T3n23
 | 24 => T3n24
 | 25 => T3n25
 | 26 => T3n26
 | 27 => T3n27
 | 28 => T3n28
 | _ => .skip
def X3 : XC := .seq (.ops [.mk (some 3) none (.k (.box 22 2 (.tmp 0))), .mk (some 6) none (.k (.mov (.const (.bool false))))]) (.ref 28)
theorem n3 : Try.f3.ntmps = 138 := by kernel_rfl
theorem r3 : resT Try.f3.results.toList = some [6] := by kernel_rfl
theorem x3 : cmpF Try.prog Try.f3 = some (expand T3 30 X3) := by kernel_rfl
def T4n0 : XC := .seq (.ops [.mk (some 6) none (.k (.mov (.const (.bool true))))]) .ret
def T4n1 : XC := .seq (.ops [.mk (some 37) none (.k (.mov (.tmp 8))), .mk (some 38) none (.k (.mov (.tmp 10))), .mk (some 39) none (.k (.cmp .eql .i64 (.tmp 37) (.tmp 38))), .mk (some 40) none (.k (.mov (.tmp 39))), .mk (some 41) (some (40, true)) (.k (.mov (.tmp 7))), .mk (some 42) (some (40, true)) (.k (.isnil NK.p false (.tmp 41))), .mk (some 43) none (.k (.pick (.tmp 40) (.tmp 42) (.const (.bool false)))), .mk (some 6) none (.k (.mov (.tmp 43)))]) .ret
def T4n2 : XC := .seq (.ops [.mk (some 6) none (.k (.mov (.const (.bool false))))]) .ret
def T4n3 : XC := .ops [.mk (some 71) none (.k (.mov (.tmp 14))), .mk (some 72) none (.k (.arith .add .i64 (.tmp 71) (.const (.int .i64 1)))), .mk (some 14) none (.k (.mov (.tmp 72)))]
def T4n4 : XC := .seq (.blk 3 (.ops [.mk (some 73) none (.k (.mov (.tmp 13))), .mk (some 74) none (.k (.mov (.tmp 14))), .mk (some 75) none (.k (.build [.int .i64 0, .int .i64 0, .bool false, .bool false, .int .u64 0, .int .u64 0, .int .u64 0, .int .u64 0, .int .u64 0, .int .u64 0, .int .u64 0, .int .u64 0, .int .u64 0, .int .u64 0, .int .u64 0, .int .u64 0, .int .u64 0, .int .u64 0, .int .u64 0, .int .u64 0, .int .i64 0] [(0, 1, .const (.int .i64 (-7)))])), .mk (some 76) none (.k (.idx 21 (.tmp 73) (.tmp 74))), .mk none none (.k (.store 21 (.tmp 76) (.tmp 75)))])) (.ref 3)
def T4n5 : XC := .seq (.seq (.ops [.mk (some 67) none (.k (.mov (.tmp 14))), .mk (some 68) none (.k (.mov (.tmp 13))), .mk (some 69) none (.k (.lenS (.tmp 68))), .mk (some 70) none (.k (.cmp .lss .i64 (.tmp 67) (.tmp 69)))]) (.cond (.tmp 70) .skip (.exit 2))) (.ref 4)
def T4n6 : XC := .seq (.ops [.mk (some 14) none (.k (.mov (.const (.int .i64 0))))]) (.blk 2 (.loop (.ref 5)))
def T4n7 : XC := .seq (.seq (.ops [.mk (some 58) none (.k (.mov (.tmp 12))), .mk (some 59) none (.k (.not (.tmp 58))), .mk (some 60) none (.k (.mov (.tmp 59))), .mk (some 61) (some (60, false)) (.k (.mov (.tmp 13))), .mk (some 62) (some (60, false)) (.k (.fld 2 (.tmp 9))), .mk (some 63) (some (60, false)) (.k (.load [.slc] false (.tmp 62))), .mk (some 64) (some (60, false)) (.call 18 [.tmp 61, .tmp 63]), .mk (some 65) (some (60, false)) (.k (.not (.tmp 64))), .mk (some 66) none (.k (.pick (.tmp 60) (.const (.bool true)) (.tmp 65)))]) (.cond (.tmp 66) (.ref 2) .skip)) (.ref 6)
def T4n8 : XC := .seq (.ops [.mk (some 56) none (.k (.mov (.tmp 7))), .mk (some 57) none (.call 11 [.tmp 56]), .mk (some 13) none (.k (.mov (.tmp 57)))]) (.ref 7)
def T4n9 : XC := .ops [.mk (some 48) none (.k (.mov (.tmp 11))), .mk (some 49) none (.k (.arith .add .i64 (.tmp 48) (.const (.int .i64 1)))), .mk (some 11) none (.k (.mov (.tmp 49)))]
def T4n10 : XC := .seq (.blk 1 (.seq (.ops [.mk (some 50) none (.k (.mov (.tmp 7))), .mk (some 51) none (.k (.mov (.tmp 2))), .mk (some 52) none (.k (.mov (.tmp 11))), .mk (some 53) none (.k (.idx 13 (.tmp 51) (.tmp 52))), .mk (some 54) none (.k (.load [.int .i64, .int .i64, .int .i64, .bool, .int .u64, .int .u64, .int .u64, .int .u64, .int .u64, .int .u64, .int .u64, .int .u64, .int .u64] true (.tmp 53))), .mk (some 55) none (.call 17 [.tmp 50, .tmp 9, .tmp 54]), .mk (some 12) none (.k (.mov (.tmp 55)))]) (.ref 8))) (.ref 9)
def T4n11 : XC := .seq (.seq (.ops [.mk (some 44) none (.k (.mov (.tmp 11))), .mk (some 45) none (.k (.mov (.tmp 2))), .mk (some 46) none (.k (.lenS (.tmp 45))), .mk (some 47) none (.k (.cmp .lss .i64 (.tmp 44) (.tmp 46)))]) (.cond (.tmp 47) .skip (.exit 0))) (.ref 10)
def T4n12 : XC := .seq (.ops [.mk (some 79) none (.k (.mov (.tmp 15))), .mk (some 80) none (.k (.fld 2 (.tmp 9))), .mk (some 81) none (.k (.load [.slc] false (.tmp 80))), .mk (some 82) none (.call 18 [.tmp 79, .tmp 81]), .mk (some 6) none (.k (.mov (.tmp 82)))]) .ret
def T4n13 : XC := .seq (.ops [.mk (some 77) none (.k (.mov (.tmp 7))), .mk (some 78) none (.call 11 [.tmp 77]), .mk (some 15) none (.k (.mov (.tmp 78)))]) (.ref 12)
def T4n14 : XC := .seq (.seq (.ops [.mk (some 11) none (.k (.mov (.const (.int .i64 0))))]) (.blk 0 (.loop (.ref 11)))) (.ref 13)
def T4n15 : XC := .seq (.seq (.ops [.mk (some 31) none (.k (.mov (.tmp 8))), .mk (some 32) none (.k (.cmp .neq .i64 (.tmp 31) (.const (.int .i64 0)))), .mk (some 33) none (.k (.mov (.tmp 32))), .mk (some 34) (some (33, false)) (.k (.mov (.tmp 10))), .mk (some 35) (some (33, false)) (.k (.cmp .neq .i64 (.tmp 34) (.const (.int .i64 0)))), .mk (some 36) none (.k (.pick (.tmp 33) (.const (.bool true)) (.tmp 35)))]) (.cond (.tmp 36) (.ref 1) .skip)) (.ref 14)
def T4n16 : XC := .seq (.ops [.mk (some 26) none (.k (.mov (.tmp 0))), .mk (some 27) none (.k (.mov (.tmp 1))), .mk (some 28) none (.call 16 [.tmp 26, .tmp 27]), .mk (some 25) none (.k (.mov (.tmp 28))), .mk (some 29) none (.k (.ext (.tmp 25) 0)), .mk (some 30) none (.k (.ext (.tmp 25) 1)), .mk (some 9) none (.k (.alloc 47 [.int .i64 0, .int .i64 0, .slice none 0 0, .int .i64 0])), .mk none none (.k (.store 4 (.tmp 9) (.tmp 29))), .mk (some 10) none (.k (.mov (.tmp 30)))]) (.ref 15)
def T4n17 : XC := .seq (.ops [.mk (some 20) none (.k (.mov (.tmp 0))), .mk (some 21) none (.k (.mov (.tmp 1))), .mk (some 22) none (.call 8 [.tmp 20, .tmp 21]), .mk (some 19) none (.k (.mov (.tmp 22))), .mk (some 23) none (.k (.ext (.tmp 19) 0)), .mk (some 24) none (.k (.ext (.tmp 19) 1)), .mk (some 7) none (.k (.mov (.tmp 23))), .mk (some 8) none (.k (.mov (.tmp 24)))]) (.ref 16)
def T4n18 : XC := .seq (.seq (.ops [.mk (some 16) none (.k (.mov (.tmp 2))), .mk (some 17) none (.k (.lenS (.tmp 16))), .mk (some 18) none (.k (.cmp .gtr .i64 (.tmp 17) (.const (.int .i64 600))))]) (.cond (.tmp 18) (.ref 0) .skip)) (.ref 17)
def T4 : Nat → XC
 | 0 => T4n0
 | 1 => T4n1
 | 2 => T4n2
 | 3 => T4n3
 | 4 => T4n4
 | 5 => T4n5
 | 6 => T4n6
 | 7 => T4n7
 | 8 => T4n8
 | 9 => T4n9
 | 10 => T4n10
 | 11 => T4n11
 | 12 => T4n12
 | 13 => T4n13
 | 14 => T4n14
 | 15 => T4n15
 | 16 => T4n16
 | 17 => T4n17
 | 18 => T4n18
 | _ => .skip
theorem t4n0 : T4 0 = T4n0 := rfl
theorem t4n1 : T4 1 = T4n1 := rfl
theorem t4n2 : T4 2 = T4n2 := rfl
theorem t4n3 : T4 3 = T4n3 := rfl
theorem t4n4 : T4 4 = T4n4 := rfl
theorem t4n5 : T4 5 = T4n5 := rfl
theorem t4n6 : T4 6 = T4n6 := rfl
theorem t4n7 : T4 7 = T4n7 := rfl
theorem t4n8 : T4 8 = T4n8 := rfl
theorem t4n9 : T4 9 = T4n9 := rfl
theorem t4n10 : T4 10 = T4n10 := rfl
theorem t4n11 : T4 11 = T4n11 := rfl
theorem t4n12 : T4 12 = T4n12 := rfl
theorem t4n13 : T4 13 = T4n13 := rfl
theorem t4n14 : T4 14 = T4n14 := rfl
theorem t4n15 : T4 15 = T4n15 := rfl
theorem t4n16 : T4 16 = T4n16 := rfl
theorem t4n17 : T4 17 = T4n17 := rfl
theorem t4n18 : T4 18 = T4n18 := rfl
def X4 : XC := .seq (.ops [.mk (some 6) none (.k (.mov (.const (.bool false))))]) (.ref 18)
abbrev K4 : List Nat := [0, 1, 2, 6, 7, 8, 9, 10, 11, 12, 13, 14, 15, 18, 36, 47, 66, 70]
theorem n4 : Try.f4.ntmps = 83 := by kernel_rfl
theorem r4 : resT Try.f4.results.toList = some [6] := by kernel_rfl
theorem x4 : cmpF Try.prog Try.f4 = some (expand T4 20 X4) := by kernel_rfl
theorem n6 : Try.f6.ntmps = 194 := by kernel_rfl
def T17n0 : XC := .seq (.ops [.mk (some 65) none (.k (.load [.int .i64, .int .i64, .bool, .bool, .int .u64, .int .u64, .int .u64, .int .u64, .int .u64, .int .u64, .int .u64, .int .u64, .int .u64, .int .u64, .int .u64, .int .u64, .int .u64, .int .u64, .int .u64, .int .u64, .int .i64] true (.tmp 7))), .mk (some 66) none (.k (.load [.int .i64, .int .i64, .bool, .bool, .int .u64, .int .u64, .int .u64, .int .u64, .int .u64, .int .u64, .int .u64, .int .u64, .int .u64, .int .u64, .int .u64, .int .u64, .int .u64, .int .u64, .int .u64, .int .u64, .int .i64] true (.tmp 10))), .mk (some 67) none (.k (.eqa false [.int .i64, .int .i64, .bool, .bool, .int .u64, .int .u64, .int .u64, .int .u64, .int .u64, .int .u64, .int .u64, .int .u64, .int .u64, .int .u64, .int .u64, .int .u64, .int .u64, .int .u64, .int .u64, .int .u64, .int .i64] (.tmp 65) (.tmp 66))), .mk (some 68) none (.k (.mov (.tmp 67))), .mk (some 69) (some (68, true)) (.k (.mov (.tmp 8))), .mk (some 70) (some (68, true)) (.k (.mov (.tmp 11))), .mk (some 71) (some (68, true)) (.k (.eqb false (.tmp 69) (.tmp 70))), .mk (some 72) none (.k (.pick (.tmp 68) (.tmp 71) (.const (.bool false)))), .mk (some 73) none (.k (.mov (.tmp 72))), .mk (some 74) (some (73, true)) (.k (.mov (.tmp 9))), .mk (some 75) (some (73, true)) (.k (.mov (.tmp 12))), .mk (some 76) (some (73, true)) (.k (.cmp .eql .i64 (.tmp 74) (.tmp 75))), .mk (some 77) none (.k (.pick (.tmp 73) (.tmp 76) (.const (.bool false)))), .mk (some 6) none (.k (.mov (.tmp 77)))]) .ret
def T17n1 : XC := .seq (.ops [.mk (some 54) none (.k (.mov (.tmp 1))), .mk (some 55) none (.k (.fld 1 (.tmp 5))), .mk (some 56) none (.k (.load [.int .i64] false (.tmp 55))), .mk (some 57) none (.k (.fld 2 (.tmp 5))), .mk (some 58) none (.k (.load [.int .i64] false (.tmp 57))), .mk (some 59) none (.k (.fld 5 (.tmp 5))), .mk (some 60) none (.k (.load [.int .u64, .int .u64, .int .u64, .int .u64, .int .u64, .int .u64, .int .u64, .int .u64] true (.tmp 59))), .mk (some 61) none (.call 30 [.tmp 54, .tmp 56, .tmp 58, .tmp 60]), .mk (some 53) none (.k (.mov (.tmp 61))), .mk (some 62) none (.k (.ext (.tmp 53) 0)), .mk (some 63) none (.k (.ext (.tmp 53) 1)), .mk (some 64) none (.k (.ext (.tmp 53) 2)), .mk (some 10) none (.k (.alloc 44 [.int .i64 0, .int .i64 0, .bool false, .bool false, .int .u64 0, .int .u64 0, .int .u64 0, .int .u64 0, .int .u64 0, .int .u64 0, .int .u64 0, .int .u64 0, .int .u64 0, .int .u64 0, .int .u64 0, .int .u64 0, .int .u64 0, .int .u64 0, .int .u64 0, .int .u64 0, .int .i64 0])), .mk none none (.k (.store 21 (.tmp 10) (.tmp 62))), .mk (some 11) none (.k (.mov (.tmp 63))), .mk (some 12) none (.k (.mov (.tmp 64)))]) (.ref 0)
def T17n2 : XC := .seq (.ops [.mk (some 42) none (.k (.mov (.tmp 0))), .mk (some 43) none (.k (.fld 1 (.tmp 5))), .mk (some 44) none (.k (.load [.int .i64] false (.tmp 43))), .mk (some 45) none (.k (.fld 2 (.tmp 5))), .mk (some 46) none (.k (.load [.int .i64] false (.tmp 45))), .mk (some 47) none (.k (.fld 5 (.tmp 5))), .mk (some 48) none (.k (.load [.int .u64, .int .u64, .int .u64, .int .u64, .int .u64, .int .u64, .int .u64, .int .u64] true (.tmp 47))), .mk (some 49) none (.call 19 [.tmp 42, .tmp 44, .tmp 46, .tmp 48]), .mk (some 41) none (.k (.mov (.tmp 49))), .mk (some 50) none (.k (.ext (.tmp 41) 0)), .mk (some 51) none (.k (.ext (.tmp 41) 1)), .mk (some 52) none (.k (.ext (.tmp 41) 2)), .mk (some 7) none (.k (.alloc 44 [.int .i64 0, .int .i64 0, .bool false, .bool false, .int .u64 0, .int .u64 0, .int .u64 0, .int .u64 0, .int .u64 0, .int .u64 0, .int .u64 0, .int .u64 0, .int .u64 0, .int .u64 0, .int .u64 0, .int .u64 0, .int .u64 0, .int .u64 0, .int .u64 0, .int .u64 0, .int .i64 0])), .mk none none (.k (.store 21 (.tmp 7) (.tmp 50))), .mk (some 8) none (.k (.mov (.tmp 51))), .mk (some 9) none (.k (.mov (.tmp 52)))]) (.ref 1)
def T17n3 : XC := .seq (.ops [.mk (some 94) none (.k (.mov (.tmp 13))), .mk (some 95) none (.k (.mov (.tmp 15))), .mk (some 96) none (.k (.cmp .eql .u64 (.tmp 94) (.tmp 95))), .mk (some 97) none (.k (.mov (.tmp 96))), .mk (some 98) (some (97, true)) (.k (.mov (.tmp 14))), .mk (some 99) (some (97, true)) (.k (.mov (.tmp 16))), .mk (some 100) (some (97, true)) (.k (.cmp .eql .i64 (.tmp 98) (.tmp 99))), .mk (some 101) none (.k (.pick (.tmp 97) (.tmp 100) (.const (.bool false)))), .mk (some 6) none (.k (.mov (.tmp 101)))]) .ret
def T17n4 : XC := .seq (.ops [.mk (some 88) none (.k (.mov (.tmp 1))), .mk (some 89) none (.k (.fld 1 (.tmp 5))), .mk (some 90) none (.k (.load [.int .i64] false (.tmp 89))), .mk (some 91) none (.call 31 [.tmp 88, .tmp 90]), .mk (some 87) none (.k (.mov (.tmp 91))), .mk (some 92) none (.k (.ext (.tmp 87) 0)), .mk (some 93) none (.k (.ext (.tmp 87) 1)), .mk (some 15) none (.k (.mov (.tmp 92))), .mk (some 16) none (.k (.mov (.tmp 93)))]) (.ref 3)
def T17n5 : XC := .seq (.ops [.mk (some 81) none (.k (.mov (.tmp 0))), .mk (some 82) none (.k (.fld 1 (.tmp 5))), .mk (some 83) none (.k (.load [.int .i64] false (.tmp 82))), .mk (some 84) none (.call 14 [.tmp 81, .tmp 83]), .mk (some 80) none (.k (.mov (.tmp 84))), .mk (some 85) none (.k (.ext (.tmp 80) 0)), .mk (some 86) none (.k (.ext (.tmp 80) 1)), .mk (some 13) none (.k (.mov (.tmp 85))), .mk (some 14) none (.k (.mov (.tmp 86)))]) (.ref 4)
def T17n6 : XC := .seq (.ops [.mk (some 116) none (.k (.mov (.tmp 17))), .mk (some 117) none (.k (.mov (.tmp 18))), .mk (some 118) none (.k (.cmp .eql .i64 (.tmp 116) (.tmp 117))), .mk (some 6) none (.k (.mov (.tmp 118)))]) .ret
def T17n7 : XC := .seq (.ops [.mk (some 110) none (.k (.mov (.tmp 1))), .mk (some 111) none (.k (.fld 1 (.tmp 5))), .mk (some 112) none (.k (.load [.int .i64] false (.tmp 111))), .mk (some 113) none (.k (.fld 4 (.tmp 5))), .mk (some 114) none (.k (.load [.int .u64] false (.tmp 113))), .mk (some 115) none (.call 32 [.tmp 110, .tmp 112, .tmp 114]), .mk (some 18) none (.k (.mov (.tmp 115)))]) (.ref 6)
def T17n8 : XC := .seq (.ops [.mk (some 104) none (.k (.mov (.tmp 0))), .mk (some 105) none (.k (.fld 1 (.tmp 5))), .mk (some 106) none (.k (.load [.int .i64] false (.tmp 105))), .mk (some 107) none (.k (.fld 4 (.tmp 5))), .mk (some 108) none (.k (.load [.int .u64] false (.tmp 107))), .mk (some 109) none (.call 13 [.tmp 104, .tmp 106, .tmp 108]), .mk (some 17) none (.k (.mov (.tmp 109)))]) (.ref 7)
def T17n9 : XC := .seq (.ops [.mk (some 133) none (.k (.mov (.tmp 19))), .mk (some 134) none (.k (.mov (.tmp 20))), .mk (some 135) none (.k (.cmp .eql .i64 (.tmp 133) (.tmp 134))), .mk (some 6) none (.k (.mov (.tmp 135)))]) .ret
def T17n10 : XC := .seq (.ops [.mk (some 127) none (.k (.mov (.tmp 1))), .mk (some 128) none (.k (.fld 1 (.tmp 5))), .mk (some 129) none (.k (.load [.int .i64] false (.tmp 128))), .mk (some 130) none (.k (.fld 3 (.tmp 5))), .mk (some 131) none (.k (.load [.bool] false (.tmp 130))), .mk (some 132) none (.call 33 [.tmp 127, .tmp 129, .tmp 131]), .mk (some 20) none (.k (.mov (.tmp 132)))]) (.ref 9)
def T17n11 : XC := .seq (.ops [.mk (some 121) none (.k (.mov (.tmp 0))), .mk (some 122) none (.k (.fld 1 (.tmp 5))), .mk (some 123) none (.k (.load [.int .i64] false (.tmp 122))), .mk (some 124) none (.k (.fld 3 (.tmp 5))), .mk (some 125) none (.k (.load [.bool] false (.tmp 124))), .mk (some 126) none (.call 12 [.tmp 121, .tmp 123, .tmp 125]), .mk (some 19) none (.k (.mov (.tmp 126)))]) (.ref 10)
def T17n12 : XC := .seq (.ops [.mk (some 152) none (.k (.load [.int .u64, .int .u64, .int .u64, .int .u64, .int .u64, .int .u64, .int .u64, .int .u64] true (.tmp 21))), .mk (some 153) none (.k (.load [.int .u64, .int .u64, .int .u64, .int .u64, .int .u64, .int .u64, .int .u64, .int .u64] true (.tmp 23))), .mk (some 154) none (.k (.eqa false [.int .u64, .int .u64, .int .u64, .int .u64, .int .u64, .int .u64, .int .u64, .int .u64] (.tmp 152) (.tmp 153))), .mk (some 155) none (.k (.mov (.tmp 154))), .mk (some 156) (some (155, true)) (.k (.mov (.tmp 22))), .mk (some 157) (some (155, true)) (.k (.mov (.tmp 24))), .mk (some 158) (some (155, true)) (.k (.cmp .eql .i64 (.tmp 156) (.tmp 157))), .mk (some 159) none (.k (.pick (.tmp 155) (.tmp 158) (.const (.bool false)))), .mk (some 6) none (.k (.mov (.tmp 159)))]) .ret
def T17n13 : XC := .seq (.ops [.mk (some 146) none (.k (.mov (.tmp 1))), .mk (some 147) none (.k (.fld 1 (.tmp 5))), .mk (some 148) none (.k (.load [.int .i64] false (.tmp 147))), .mk (some 149) none (.call 34 [.tmp 146, .tmp 148]), .mk (some 145) none (.k (.mov (.tmp 149))), .mk (some 150) none (.k (.ext (.tmp 145) 0)), .mk (some 151) none (.k (.ext (.tmp 145) 1)), .mk (some 23) none (.k (.alloc 42 [.int .u64 0, .int .u64 0, .int .u64 0, .int .u64 0, .int .u64 0, .int .u64 0, .int .u64 0, .int .u64 0])), .mk none none (.k (.store 8 (.tmp 23) (.tmp 150))), .mk (some 24) none (.k (.mov (.tmp 151)))]) (.ref 12)
def T17n14 : XC := .seq (.ops [.mk (some 139) none (.k (.mov (.tmp 0))), .mk (some 140) none (.k (.fld 1 (.tmp 5))), .mk (some 141) none (.k (.load [.int .i64] false (.tmp 140))), .mk (some 142) none (.call 21 [.tmp 139, .tmp 141]), .mk (some 138) none (.k (.mov (.tmp 142))), .mk (some 143) none (.k (.ext (.tmp 138) 0)), .mk (some 144) none (.k (.ext (.tmp 138) 1)), .mk (some 21) none (.k (.alloc 42 [.int .u64 0, .int .u64 0, .int .u64 0, .int .u64 0, .int .u64 0, .int .u64 0, .int .u64 0, .int .u64 0])), .mk none none (.k (.store 8 (.tmp 21) (.tmp 143))), .mk (some 22) none (.k (.mov (.tmp 144)))]) (.ref 13)
def T17n15 : XC := .seq (.ops [.mk (some 174) none (.k (.mov (.tmp 25))), .mk (some 175) none (.k (.mov (.tmp 26))), .mk (some 176) none (.k (.cmp .eql .i64 (.tmp 174) (.tmp 175))), .mk (some 6) none (.k (.mov (.tmp 176)))]) .ret
def T17n16 : XC := .seq (.ops [.mk (some 168) none (.k (.mov (.tmp 1))), .mk (some 169) none (.k (.fld 1 (.tmp 5))), .mk (some 170) none (.k (.load [.int .i64] false (.tmp 169))), .mk (some 171) none (.k (.fld 5 (.tmp 5))), .mk (some 172) none (.k (.load [.int .u64, .int .u64, .int .u64, .int .u64, .int .u64, .int .u64, .int .u64, .int .u64] true (.tmp 171))), .mk (some 173) none (.call 35 [.tmp 168, .tmp 170, .tmp 172]), .mk (some 26) none (.k (.mov (.tmp 173)))]) (.ref 15)
def T17n17 : XC := .seq (.ops [.mk (some 162) none (.k (.mov (.tmp 0))), .mk (some 163) none (.k (.fld 1 (.tmp 5))), .mk (some 164) none (.k (.load [.int .i64] false (.tmp 163))), .mk (some 165) none (.k (.fld 5 (.tmp 5))), .mk (some 166) none (.k (.load [.int .u64, .int .u64, .int .u64, .int .u64, .int .u64, .int .u64, .int .u64, .int .u64] true (.tmp 165))), .mk (some 167) none (.call 22 [.tmp 162, .tmp 164, .tmp 166]), .mk (some 25) none (.k (.mov (.tmp 167)))]) (.ref 16)
def T17n18 : XC := .seq (.ops [.mk (some 193) none (.k (.load [.int .i64, .int .i64, .bool, .bool, .int .u64, .int .u64, .int .u64, .int .u64, .int .u64, .int .u64, .int .u64, .int .u64, .int .u64, .int .u64, .int .u64, .int .u64, .int .u64, .int .u64, .int .u64, .int .u64, .int .i64] true (.tmp 27))), .mk (some 194) none (.k (.load [.int .i64, .int .i64, .bool, .bool, .int .u64, .int .u64, .int .u64, .int .u64, .int .u64, .int .u64, .int .u64, .int .u64, .int .u64, .int .u64, .int .u64, .int .u64, .int .u64, .int .u64, .int .u64, .int .u64, .int .i64] true (.tmp 29))), .mk (some 195) none (.k (.eqa false [.int .i64, .int .i64, .bool, .bool, .int .u64, .int .u64, .int .u64, .int .u64, .int .u64, .int .u64, .int .u64, .int .u64, .int .u64, .int .u64, .int .u64, .int .u64, .int .u64, .int .u64, .int .u64, .int .u64, .int .i64] (.tmp 193) (.tmp 194))), .mk (some 196) none (.k (.mov (.tmp 195))), .mk (some 197) (some (196, true)) (.k (.mov (.tmp 28))), .mk (some 198) (some (196, true)) (.k (.mov (.tmp 30))), .mk (some 199) (some (196, true)) (.k (.cmp .eql .i64 (.tmp 197) (.tmp 198))), .mk (some 200) none (.k (.pick (.tmp 196) (.tmp 199) (.const (.bool false)))), .mk (some 6) none (.k (.mov (.tmp 200)))]) .ret
def T17n19 : XC := .seq (.ops [.mk (some 187) none (.k (.mov (.tmp 1))), .mk (some 188) none (.k (.fld 1 (.tmp 5))), .mk (some 189) none (.k (.load [.int .i64] false (.tmp 188))), .mk (some 190) none (.call 36 [.tmp 187, .tmp 189]), .mk (some 186) none (.k (.mov (.tmp 190))), .mk (some 191) none (.k (.ext (.tmp 186) 0)), .mk (some 192) none (.k (.ext (.tmp 186) 1)), .mk (some 29) none (.k (.alloc 44 [.int .i64 0, .int .i64 0, .bool false, .bool false, .int .u64 0, .int .u64 0, .int .u64 0, .int .u64 0, .int .u64 0, .int .u64 0, .int .u64 0, .int .u64 0, .int .u64 0, .int .u64 0, .int .u64 0, .int .u64 0, .int .u64 0, .int .u64 0, .int .u64 0, .int .u64 0, .int .i64 0])), .mk none none (.k (.store 21 (.tmp 29) (.tmp 191))), .mk (some 30) none (.k (.mov (.tmp 192)))]) (.ref 18)
def T17n20 : XC := .seq (.ops [.mk (some 180) none (.k (.mov (.tmp 0))), .mk (some 181) none (.k (.fld 1 (.tmp 5))), .mk (some 182) none (.k (.load [.int .i64] false (.tmp 181))), .mk (some 183) none (.call 23 [.tmp 180, .tmp 182]), .mk (some 179) none (.k (.mov (.tmp 183))), .mk (some 184) none (.k (.ext (.tmp 179) 0)), .mk (some 185) none (.k (.ext (.tmp 179) 1)), .mk (some 27) none (.k (.alloc 44 [.int .i64 0, .int .i64 0, .bool false, .bool false, .int .u64 0, .int .u64 0, .int .u64 0, .int .u64 0, .int .u64 0, .int .u64 0, .int .u64 0, .int .u64 0, .int .u64 0, .int .u64 0, .int .u64 0, .int .u64 0, .int .u64 0, .int .u64 0, .int .u64 0, .int .u64 0, .int .i64 0])), .mk none none (.k (.store 21 (.tmp 27) (.tmp 184))), .mk (some 28) none (.k (.mov (.tmp 185)))]) (.ref 19)
def T17n21 : XC := .seq (.ops [.mk (some 207) none (.k (.mov (.tmp 31))), .mk (some 208) none (.k (.cmp .eql .i64 (.tmp 207) (.const (.int .i64 0)))), .mk (some 6) none (.k (.mov (.tmp 208)))]) .ret
def T17n22 : XC := .seq (.ops [.mk (some 205) none (.k (.mov (.tmp 1))), .mk (some 206) none (.call 37 [.tmp 205])]) (.ref 21)
def T17n23 : XC := .seq (.ops [.mk (some 203) none (.k (.mov (.tmp 0))), .mk (some 204) none (.call 10 [.tmp 203]), .mk (some 31) none (.k (.mov (.tmp 204)))]) (.ref 22)
def T17n24 : XC := .seq (.ops [.mk (some 215) none (.k (.mov (.tmp 32))), .mk (some 216) none (.k (.cmp .eql .i64 (.tmp 215) (.const (.int .i64 0)))), .mk (some 6) none (.k (.mov (.tmp 216)))]) .ret
def T17n25 : XC := .seq (.ops [.mk (some 213) none (.k (.mov (.tmp 1))), .mk (some 214) none (.call 38 [.tmp 213])]) (.ref 24)
def T17n26 : XC := .seq (.ops [.mk (some 211) none (.k (.mov (.tmp 0))), .mk (some 212) none (.call 15 [.tmp 211]), .mk (some 32) none (.k (.mov (.tmp 212)))]) (.ref 25)
def T17n27 : XC := .seq (.ops [.mk (some 233) none (.k (.load [.int .i64, .int .i64, .bool, .bool, .int .u64, .int .u64, .int .u64, .int .u64, .int .u64, .int .u64, .int .u64, .int .u64, .int .u64, .int .u64, .int .u64, .int .u64, .int .u64, .int .u64, .int .u64, .int .u64, .int .i64] true (.tmp 33))), .mk (some 234) none (.k (.load [.int .i64, .int .i64, .bool, .bool, .int .u64, .int .u64, .int .u64, .int .u64, .int .u64, .int .u64, .int .u64, .int .u64, .int .u64, .int .u64, .int .u64, .int .u64, .int .u64, .int .u64, .int .u64, .int .u64, .int .i64] true (.tmp 35))), .mk (some 235) none (.k (.eqa false [.int .i64, .int .i64, .bool, .bool, .int .u64, .int .u64, .int .u64, .int .u64, .int .u64, .int .u64, .int .u64, .int .u64, .int .u64, .int .u64, .int .u64, .int .u64, .int .u64, .int .u64, .int .u64, .int .u64, .int .i64] (.tmp 233) (.tmp 234))), .mk (some 236) none (.k (.mov (.tmp 235))), .mk (some 237) (some (236, true)) (.k (.mov (.tmp 34))), .mk (some 238) (some (236, true)) (.k (.mov (.tmp 36))), .mk (some 239) (some (236, true)) (.k (.eqb false (.tmp 237) (.tmp 238))), .mk (some 240) none (.k (.pick (.tmp 236) (.tmp 239) (.const (.bool false)))), .mk (some 6) none (.k (.mov (.tmp 240)))]) .ret
def T17n28 : XC := .seq (.ops [.mk (some 227) none (.k (.mov (.tmp 1))), .mk (some 228) none (.k (.fld 1 (.tmp 5))), .mk (some 229) none (.k (.load [.int .i64] false (.tmp 228))), .mk (some 230) none (.call 39 [.tmp 227, .tmp 229]), .mk (some 226) none (.k (.mov (.tmp 230))), .mk (some 231) none (.k (.ext (.tmp 226) 0)), .mk (some 232) none (.k (.ext (.tmp 226) 1)), .mk (some 35) none (.k (.alloc 44 [.int .i64 0, .int .i64 0, .bool false, .bool false, .int .u64 0, .int .u64 0, .int .u64 0, .int .u64 0, .int .u64 0, .int .u64 0, .int .u64 0, .int .u64 0, .int .u64 0, .int .u64 0, .int .u64 0, .int .u64 0, .int .u64 0, .int .u64 0, .int .u64 0, .int .u64 0, .int .i64 0])), .mk none none (.k (.store 21 (.tmp 35) (.tmp 231))), .mk (some 36) none (.k (.mov (.tmp 232)))]) (.ref 27)
def T17n29 : XC := .seq (.ops [.mk (some 220) none (.k (.mov (.tmp 0))), .mk (some 221) none (.k (.fld 1 (.tmp 5))), .mk (some 222) none (.k (.load [.int .i64] false (.tmp 221))), .mk (some 223) none (.call 20 [.tmp 220, .tmp 222]), .mk (some 219) none (.k (.mov (.tmp 223))), .mk (some 224) none (.k (.ext (.tmp 219) 0)), .mk (some 225) none (.k (.ext (.tmp 219) 1)), .mk (some 33) none (.k (.alloc 44 [.int .i64 0, .int .i64 0, .bool false, .bool false, .int .u64 0, .int .u64 0, .int .u64 0, .int .u64 0, .int .u64 0, .int .u64 0, .int .u64 0, .int .u64 0, .int .u64 0, .int .u64 0, .int .u64 0, .int .u64 0, .int .u64 0, .int .u64 0, .int .u64 0, .int .u64 0, .int .i64 0])), .mk none none (.k (.store 21 (.tmp 33) (.tmp 224))), .mk (some 34) none (.k (.mov (.tmp 225)))]) (.ref 28)
def T17n30 : XC := .seq (.ops [.mk (some 218) none (.k (.cmp .eql .i64 (.tmp 38) (.const (.int .i64 9)))), .mk (some 217) none (.k (.mov (.tmp 218)))]) (.cond (.tmp 217) (.ref 29) .skip)
def T17n31 : XC := .seq (.ops [.mk (some 210) none (.k (.cmp .eql .i64 (.tmp 38) (.const (.int .i64 8)))), .mk (some 209) none (.k (.mov (.tmp 210)))]) (.cond (.tmp 209) (.ref 26) (.ref 30))
def T17n32 : XC := .seq (.ops [.mk (some 202) none (.k (.cmp .eql .i64 (.tmp 38) (.const (.int .i64 7)))), .mk (some 201) none (.k (.mov (.tmp 202)))]) (.cond (.tmp 201) (.ref 23) (.ref 31))
def T17n33 : XC := .seq (.ops [.mk (some 178) none (.k (.cmp .eql .i64 (.tmp 38) (.const (.int .i64 6)))), .mk (some 177) none (.k (.mov (.tmp 178)))]) (.cond (.tmp 177) (.ref 20) (.ref 32))
def T17n34 : XC := .seq (.ops [.mk (some 161) none (.k (.cmp .eql .i64 (.tmp 38) (.const (.int .i64 5)))), .mk (some 160) none (.k (.mov (.tmp 161)))]) (.cond (.tmp 160) (.ref 17) (.ref 33))
def T17n35 : XC := .seq (.ops [.mk (some 137) none (.k (.cmp .eql .i64 (.tmp 38) (.const (.int .i64 4)))), .mk (some 136) none (.k (.mov (.tmp 137)))]) (.cond (.tmp 136) (.ref 14) (.ref 34))
def T17n36 : XC := .seq (.ops [.mk (some 120) none (.k (.cmp .eql .i64 (.tmp 38) (.const (.int .i64 3)))), .mk (some 119) none (.k (.mov (.tmp 120)))]) (.cond (.tmp 119) (.ref 11) (.ref 35))
def T17n37 : XC := .seq (.ops [.mk (some 103) none (.k (.cmp .eql .i64 (.tmp 38) (.const (.int .i64 2)))), .mk (some 102) none (.k (.mov (.tmp 103)))]) (.cond (.tmp 102) (.ref 8) (.ref 36))
def T17n38 : XC := .seq (.ops [.mk (some 79) none (.k (.cmp .eql .i64 (.tmp 38) (.const (.int .i64 1)))), .mk (some 78) none (.k (.mov (.tmp 79)))]) (.cond (.tmp 78) (.ref 5) (.ref 37))
def T17n39 : XC := .blk 0 (.seq (.ops [.mk (some 40) none (.k (.cmp .eql .i64 (.tmp 38) (.const (.int .i64 0)))), .mk (some 39) none (.k (.mov (.tmp 40)))]) (.cond (.tmp 39) (.ref 2) (.ref 38)))
def T17n40 : XC := .seq (.ops [.mk (some 6) none (.k (.mov (.const (.bool true))))]) .ret
def T17n41 : XC := .seq (.seq (.ops [.mk (some 37) none (.k (.fld 0 (.tmp 5))), .mk (some 38) none (.k (.load [.int .i64] false (.tmp 37)))]) (.ref 39)) (.ref 40)
def T17 : Nat → XC
 | 0 => T17n0
 | 1 => T17n1
 | 2 => T17n2
 | 3 => T17n3
 | 4 => T17n4
 | 5 => T17n5
 | 6 => T17n6
 | 7 => T17n7
 | 8 => T17n8
 | 9 => T17n9
 | 10 => T17n10
 | 11 => T17n11
 | 12 => T17n12
 | 13 => T17n13
 | 14 => T17n14
 | 15 => T17n15
 | 16 => T17n16
 | 17 => T17n17
 | 18 => T17n18
 | 19 => T17n19
 | 20 => T17n20
 | 21 => T17n21
 | 22 => T17n22
 | 23 => T17n23
 | 24 => T17n24
 | 25 => T17n25
 | 26 => T17n26
 | 27 => T17n27
 | 28 => T17n28
 | 29 => T17n29
 | 30 => T17n30
 | 31 => T17n31
 | 32 => T17n32
 | 33 => T17n33
 | 34 => T17n34
 | 35 => T17n35
 | 36 => T17n36
 | 37 => T17n37
 | 38 => T17n38
 | 39 => T17n39
 | 40 => T17n40
 | 41 => T17n41
 | _ => .skip
theorem t17n0 : T17 0 = T17n0 := rfl
theorem t17n1 : T17 1 = T17n1 := rfl
theorem t17n2 : T17 2 = T17n2 := rfl
theorem t17n3 : T17 3 = T17n3 := rfl
theorem t17n4 : T17 4 = T17n4 := rfl
theorem t17n5 : T17 5 = T17n5 := rfl
theorem t17n6 : T17 6 = T17n6 := rfl
theorem t17n7 : T17 7 = T17n7 := rfl
theorem t17n8 : T17 8 = T17n8 := rfl
theorem t17n9 : T17 9 = T17n9 := rfl
theorem t17n10 : T17 10 = T17n10 := rfl
theorem t17n11 : T17 11 = T17n11 := rfl
theorem t17n12 : T17 12 = T17n12 := rfl
theorem t17n13 : T17 13 = T17n13 := rfl
theorem t17n14 : T17 14 = T17n14 := rfl
theorem t17n15 : T17 15 = T17n15 := rfl
theorem t17n16 : T17 16 = T17n16 := rfl
theorem t17n17 : T17 17 = T17n17 := rfl
theorem t17n18 : T17 18 = T17n18 := rfl
theorem t17n19 : T17 19 = T17n19 := rfl
theorem t17n20 : T17 20 = T17n20 := rfl
theorem t17n21 : T17 21 = T17n21 := rfl
theorem t17n22 : T17 22 = T17n22 := rfl
theorem t17n23 : T17 23 = T17n23 := rfl
theorem t17n24 : T17 24 = T17n24 := rfl
theorem t17n25 : T17 25 = T17n25 := rfl
theorem t17n26 : T17 26 = T17n26 := rfl
theorem t17n27 : T17 27 = T17n27 := rfl
theorem t17n28 : T17 28 = T17n28 := rfl
theorem t17n29 : T17 29 = T17n29 := rfl
theorem t17n30 : T17 30 = T17n30 := rfl
theorem t17n31 : T17 31 = T17n31 := rfl
theorem t17n32 : T17 32 = T17n32 := rfl
theorem t17n33 : T17 33 = T17n33 := rfl
theorem t17n34 : T17 34 = T17n34 := rfl
theorem t17n35 : T17 35 = T17n35 := rfl
theorem t17n36 : T17 36 = T17n36 := rfl
theorem t17n37 : T17 37 = T17n37 := rfl
theorem t17n38 : T17 38 = T17n38 := rfl
theorem t17n39 : T17 39 = T17n39 := rfl
theorem t17n40 : T17 40 = T17n40 := rfl
theorem t17n41 : T17 41 = T17n41 := rfl
def X17 : XC := .seq (.ops [.mk (some 5) none (.k (.box 53 13 (.tmp 2))), .mk (some 6) none (.k (.mov (.const (.bool false))))]) (.ref 41)
abbrev K17 : List Nat := [0, 1, 2, 5, 6, 7, 8, 9, 10, 11, 12, 13, 14, 15, 16, 17, 18, 19, 20, 21, 22, 23, 24, 25, 26, 27, 28, 29, 30, 31, 32, 33, 34, 35, 36, 38, 39, 78, 102, 119, 136, 160, 177, 201, 209, 217]
theorem n17 : Try.f17.ntmps = 241 := by kernel_rfl
theorem r17 : resT Try.f17.results.toList = some [6] := by kernel_rfl
theorem x17 : cmpF Try.prog Try.f17 = some (expand T17 43 X17) := by kernel_rfl
end Go.Proofs.Ytimmobbginjkfaa
