/- Printed by program: the small code of functions, and that it is theirs. -/
import Derived.Test.YtgghmmjoplddbaaDoorSxStill
import Derived.Test.YtgghmmjoplddbaaDoorProg
import Derived.KernelRfl
set_option linter.unusedSimpArgs false
set_option linter.unusedVariables false
set_option linter.unnecessarySimpa false
namespace Go.Proofs.YtgghmmjoplddbaaDoor
open Go Go.Sx
set_option maxRecDepth 100000
def T3n0 : XC := .seq (.ops [.mk (some 24) none (.k (.mov (.tmp 6))), .mk (some 25) none (.k (.cmp .eql .i64 (.tmp 24) (.const (.int .i64 2)))), .mk (some 26) none (.k (.mov (.tmp 0))), .mk (some 27) none (.k (.lenS (.tmp 26))), .mk (some 28) none (.k (.cmp .gtr .i64 (.tmp 27) (.const (.int .i64 1024)))), .mk (some 29) none (.k (.eqb false (.tmp 25) (.tmp 28))), .mk (some 4) none (.k (.mov (.tmp 29)))]) .ret
def T3n1 : XC := .seq (.ops [.mk (some 20) none (.k (.mov (.tmp 0))), .mk (some 21) none (.call 6 [.tmp 20]), .mk (some 19) none (.k (.mov (.tmp 21))), .mk (some 22) none (.k (.ext (.tmp 19) 0)), .mk (some 23) none (.k (.ext (.tmp 19) 1)), .mk (some 5) none (.k (.mov (.tmp 22))), .mk (some 6) none (.k (.mov (.tmp 23)))]) (.ref 0)
def T3n2 : XC := .cond (.tmp 67) (.ops [.mk (some 68) none (.k (.mov (.tmp 14))), .mk (some 13) none (.k (.mov (.tmp 68)))]) .skip
def T3n3 : XC := .ops [.mk (some 50) none (.k (.mov (.tmp 14))), .mk (some 51) none (.k (.arith .add .i64 (.tmp 50) (.const (.int .i64 1)))), .mk (some 14) none (.k (.mov (.tmp 51)))]
def T3n4 : XC := .seq (.blk 1 (.seq (.ops [.mk (some 52) none (.k (.mov (.tmp 1))), .mk (some 53) none (.k (.mov (.tmp 10))), .mk (some 54) none (.k (.mov (.tmp 14))), .mk (some 55) none (.k (.idx 3 (.tmp 53) (.tmp 54))), .mk (some 56) none (.k (.fld 0 (.tmp 55))), .mk (some 57) none (.k (.load [.int .i64] false (.tmp 56))), .mk (some 58) none (.k (.cmp .geq .i64 (.tmp 52) (.tmp 57))), .mk (some 59) none (.k (.mov (.tmp 58))), .mk (some 60) (some (59, true)) (.k (.mov (.tmp 1))), .mk (some 61) (some (59, true)) (.k (.mov (.tmp 10))), .mk (some 62) (some (59, true)) (.k (.mov (.tmp 14))), .mk (some 63) (some (59, true)) (.k (.idx 3 (.tmp 61) (.tmp 62))), .mk (some 64) (some (59, true)) (.k (.fld 1 (.tmp 63))), .mk (some 65) (some (59, true)) (.k (.load [.int .i64] false (.tmp 64))), .mk (some 66) (some (59, true)) (.k (.cmp .lss .i64 (.tmp 60) (.tmp 65))), .mk (some 67) none (.k (.pick (.tmp 59) (.tmp 66) (.const (.bool false))))]) (.ref 2))) (.ref 3)
def T3n5 : XC := .seq (.seq (.ops [.mk (some 46) none (.k (.mov (.tmp 14))), .mk (some 47) none (.k (.mov (.tmp 10))), .mk (some 48) none (.k (.lenS (.tmp 47))), .mk (some 49) none (.k (.cmp .lss .i64 (.tmp 46) (.tmp 48)))]) (.cond (.tmp 49) .skip (.exit 0))) (.ref 4)
def T3n6 : XC := .seq (.ops [.mk (some 77) none (.k (.mov (.tmp 9))), .mk (some 78) none (.k (.cmp .eql .i64 (.tmp 77) (.const (.int .i64 0)))), .mk (some 79) none (.k (.mov (.tmp 78))), .mk (some 80) (some (79, true)) (.k (.mov (.tmp 8))), .mk (some 81) (some (79, true)) (.k (.mov (.tmp 10))), .mk (some 82) (some (79, true)) (.call 9 [.tmp 80, .tmp 81]), .mk (some 83) none (.k (.pick (.tmp 79) (.tmp 82) (.const (.bool false)))), .mk (some 84) none (.k (.mov (.tmp 83))), .mk (some 85) (some (84, true)) (.k (.mov (.tmp 7))), .mk (some 86) (some (84, true)) (.k (.mov (.tmp 0))), .mk (some 87) (some (84, true)) (.call 10 [.tmp 85, .tmp 86]), .mk (some 88) none (.k (.pick (.tmp 84) (.tmp 87) (.const (.bool false)))), .mk (some 89) none (.k (.mov (.tmp 88))), .mk (some 90) (some (89, true)) (.k (.mov (.tmp 15))), .mk (some 91) (some (89, true)) (.k (.mov (.tmp 90))), .mk (some 92) (some (91, true)) (.k (.mov (.tmp 12))), .mk (some 93) (some (91, true)) (.k (.cmp .eql .i64 (.tmp 92) (.const (.int .i64 0)))), .mk (some 94) (some (89, true)) (.k (.pick (.tmp 91) (.tmp 93) (.const (.bool false)))), .mk (some 95) (some (89, true)) (.k (.mov (.tmp 94))), .mk (some 96) (some (95, true)) (.k (.mov (.tmp 11))), .mk (some 97) (some (95, true)) (.k (.mov (.tmp 13))), .mk (some 98) (some (95, true)) (.k (.cmp .eql .i64 (.tmp 96) (.tmp 97))), .mk (some 99) (some (89, true)) (.k (.pick (.tmp 95) (.tmp 98) (.const (.bool false)))), .mk (some 100) (some (89, true)) (.k (.mov (.tmp 99))), .mk (some 101) (some (100, false)) (.k (.mov (.tmp 15))), .mk (some 102) (some (100, false)) (.k (.not (.tmp 101))), .mk (some 103) (some (100, false)) (.k (.mov (.tmp 102))), .mk (some 104) (some (103, true)) (.k (.mov (.tmp 12))), .mk (some 105) (some (103, true)) (.k (.cmp .eql .i64 (.tmp 104) (.const (.int .i64 2)))), .mk (some 106) (some (100, false)) (.k (.pick (.tmp 103) (.tmp 105) (.const (.bool false)))), .mk (some 107) (some (100, false)) (.k (.mov (.tmp 106))), .mk (some 108) (some (107, true)) (.k (.mov (.tmp 11))), .mk (some 109) (some (107, true)) (.k (.cmp .eql .i64 (.tmp 108) (.const (.int .i64 0)))), .mk (some 110) (some (100, false)) (.k (.pick (.tmp 107) (.tmp 109) (.const (.bool false)))), .mk (some 111) (some (89, true)) (.k (.pick (.tmp 100) (.const (.bool true)) (.tmp 110))), .mk (some 112) none (.k (.pick (.tmp 89) (.tmp 111) (.const (.bool false)))), .mk (some 4) none (.k (.mov (.tmp 112)))]) .ret
def T3n7 : XC := .seq (.ops [.mk (some 69) none (.k (.mov (.tmp 1))), .mk (some 70) none (.k (.cmp .geq .i64 (.tmp 69) (.const (.int .i64 0)))), .mk (some 71) none (.k (.mov (.tmp 70))), .mk (some 72) (some (71, true)) (.k (.mov (.tmp 1))), .mk (some 73) (some (71, true)) (.k (.mov (.tmp 0))), .mk (some 74) (some (71, true)) (.k (.lenS (.tmp 73))), .mk (some 75) (some (71, true)) (.k (.cmp .lss .i64 (.tmp 72) (.tmp 74))), .mk (some 76) none (.k (.pick (.tmp 71) (.tmp 75) (.const (.bool false)))), .mk (some 15) none (.k (.mov (.tmp 76)))]) (.ref 6)
def T3n8 : XC := .seq (.seq (.ops [.mk (some 14) none (.k (.mov (.const (.int .i64 0))))]) (.blk 0 (.loop (.ref 5)))) (.ref 7)
def T3n9 : XC := .seq (.ops [.mk (some 13) none (.k (.mov (.const (.int .i64 0))))]) (.ref 8)
def T3n10 : XC := .seq (.ops [.mk (some 41) none (.k (.mov (.tmp 7))), .mk (some 42) none (.k (.mov (.tmp 1))), .mk (some 43) none (.call 8 [.tmp 41, .tmp 42]), .mk (some 40) none (.k (.mov (.tmp 43))), .mk (some 44) none (.k (.ext (.tmp 40) 0)), .mk (some 45) none (.k (.ext (.tmp 40) 1)), .mk (some 11) none (.k (.mov (.tmp 44))), .mk (some 12) none (.k (.mov (.tmp 45)))]) (.ref 9)
def T3n11 : XC := .seq (.ops [.mk (some 38) none (.k (.mov (.tmp 0))), .mk (some 39) none (.call 7 [.tmp 38]), .mk (some 10) none (.k (.mov (.tmp 39)))]) (.ref 10)
def T3n12 : XC := .seq (.ops [.mk (some 34) none (.k (.mov (.tmp 7))), .mk (some 35) none (.call 6 [.tmp 34]), .mk (some 33) none (.k (.mov (.tmp 35))), .mk (some 36) none (.k (.ext (.tmp 33) 0)), .mk (some 37) none (.k (.ext (.tmp 33) 1)), .mk (some 8) none (.k (.mov (.tmp 36))), .mk (some 9) none (.k (.mov (.tmp 37)))]) (.ref 11)
def T3n13 : XC := .seq (.ops [.mk (some 30) none (.k (.buildS 37 0 5 [.int .i64 0, .int .i64 0, .int .i64 0, .int .i64 0, .int .i64 0] [])), .mk (some 31) none (.k (.mov (.tmp 0))), .mk (some 32) none (.k (.app 37 5 40 (.tmp 30) (.tmp 31))), .mk (some 7) none (.k (.mov (.tmp 32)))]) (.ref 12)
def T3n14 : XC := .seq (.seq (.ops [.mk (some 16) none (.k (.mov (.tmp 0))), .mk (some 17) none (.k (.lenS (.tmp 16))), .mk (some 18) none (.k (.cmp .gtr .i64 (.tmp 17) (.const (.int .i64 300))))]) (.cond (.tmp 18) (.ref 1) .skip)) (.ref 13)
def T3 : Nat → XC
 | 0 => T3n0
 | 1 => T3n1
 | 2 => T3n2
 | 3 => T3n3
 | 4 => T3n4
 | 5 => T3n5
 | 6 => T3n6
 | 7 => T3n7
 | 8 => T3n8
 | 9 => T3n9
 | 10 => T3n10
 | 11 => T3n11
 | 12 => T3n12
 | 13 => T3n13
 | 14 => T3n14
 | _ => .skip
def X3 : XC := .seq (.ops [.mk (some 4) none (.k (.mov (.const (.bool false))))]) (.ref 14)
theorem n3 : Tryd.f3.ntmps = 113 := by kernel_rfl
theorem r3 : resT Tryd.f3.results.toList = some [4] := by kernel_rfl
theorem x3 : cmpF Tryd.prog Tryd.f3 = some (expand T3 16 X3) := by kernel_rfl
def T5n0 : XC := .seq (.ops [.mk (some 2) none (.k (.mov (.const (.bool true))))]) .ret
def T5n1 : XC := .seq (.ops [.mk (some 2) none (.k (.mov (.const (.bool false))))]) .ret
def T5n2 : XC := .seq (.ops [.mk (some 2) none (.k (.mov (.const (.bool false))))]) .ret
def T5n3 : XC := .ops [.mk (some 76) none (.k (.mov (.tmp 14))), .mk (some 77) none (.k (.arith .add .i64 (.tmp 76) (.const (.int .i64 1)))), .mk (some 14) none (.k (.mov (.tmp 77)))]
def T5n4 : XC := .seq (.blk 3 (.seq (.ops [.mk (some 78) none (.k (.mov (.tmp 5))), .mk (some 79) none (.k (.mov (.tmp 12))), .mk (some 80) none (.k (.idx 1 (.tmp 78) (.tmp 79))), .mk (some 81) none (.k (.load [.slc] false (.tmp 80))), .mk (some 82) none (.k (.lenS (.tmp 81))), .mk (some 83) none (.k (.mov (.tmp 9))), .mk (some 84) none (.k (.lenS (.tmp 83))), .mk (some 85) none (.k (.cmp .neq .i64 (.tmp 82) (.tmp 84))), .mk (some 86) none (.k (.mov (.tmp 85))), .mk (some 87) (some (86, false)) (.k (.mov (.tmp 5))), .mk (some 88) (some (86, false)) (.k (.mov (.tmp 12))), .mk (some 89) (some (86, false)) (.k (.idx 1 (.tmp 87) (.tmp 88))), .mk (some 90) (some (86, false)) (.k (.load [.slc] false (.tmp 89))), .mk (some 91) (some (86, false)) (.k (.mov (.tmp 14))), .mk (some 92) (some (86, false)) (.k (.idx 1 (.tmp 90) (.tmp 91))), .mk (some 93) (some (86, false)) (.k (.load [.bool] false (.tmp 92))), .mk (some 94) (some (86, false)) (.k (.mov (.tmp 10))), .mk (some 95) (some (86, false)) (.k (.mov (.tmp 14))), .mk (some 96) (some (86, false)) (.k (.idx 1 (.tmp 94) (.tmp 95))), .mk (some 97) (some (86, false)) (.k (.load [.bool] false (.tmp 96))), .mk (some 98) (some (86, false)) (.k (.mov (.tmp 97))), .mk (some 99) (some (98, true)) (.k (.mov (.tmp 13))), .mk (some 100) (some (98, true)) (.k (.mov (.tmp 14))), .mk (some 101) (some (98, true)) (.k (.idx 1 (.tmp 99) (.tmp 100))), .mk (some 102) (some (98, true)) (.k (.load [.bool] false (.tmp 101))), .mk (some 103) (some (98, true)) (.k (.not (.tmp 102))), .mk (some 104) (some (86, false)) (.k (.pick (.tmp 98) (.tmp 103) (.const (.bool false)))), .mk (some 105) (some (86, false)) (.k (.eqb true (.tmp 93) (.tmp 104))), .mk (some 106) none (.k (.pick (.tmp 86) (.const (.bool true)) (.tmp 105)))]) (.cond (.tmp 106) (.ref 2) .skip))) (.ref 3)
def T5n5 : XC := .seq (.seq (.ops [.mk (some 72) none (.k (.mov (.tmp 14))), .mk (some 73) none (.k (.mov (.tmp 9))), .mk (some 74) none (.k (.lenS (.tmp 73))), .mk (some 75) none (.k (.cmp .lss .i64 (.tmp 72) (.tmp 74)))]) (.cond (.tmp 75) .skip (.exit 2))) (.ref 4)
def T5n6 : XC := .seq (.ops [.mk (some 14) none (.k (.mov (.const (.int .i64 0))))]) (.blk 2 (.loop (.ref 5)))
def T5n7 : XC := .ops [.mk (some 67) none (.k (.mov (.tmp 12))), .mk (some 68) none (.k (.arith .add .i64 (.tmp 67) (.const (.int .i64 1)))), .mk (some 12) none (.k (.mov (.tmp 68)))]
def T5n8 : XC := .seq (.blk 1 (.seq (.ops [.mk (some 69) none (.k (.mov (.tmp 9))), .mk (some 70) none (.k (.mov (.tmp 12))), .mk (some 71) none (.call 17 [.tmp 69, .tmp 70]), .mk (some 13) none (.k (.mov (.tmp 71)))]) (.ref 6))) (.ref 7)
def T5n9 : XC := .seq (.seq (.ops [.mk (some 63) none (.k (.mov (.tmp 12))), .mk (some 64) none (.k (.mov (.tmp 9))), .mk (some 65) none (.k (.lenS (.tmp 64))), .mk (some 66) none (.k (.cmp .lss .i64 (.tmp 63) (.tmp 65)))]) (.cond (.tmp 66) .skip (.exit 0))) (.ref 8)
def T5n10 : XC := .seq (.ops [.mk (some 2) none (.k (.mov (.const (.bool false))))]) .ret
def T5n11 : XC := .ops [.mk (some 161) none (.k (.mov (.tmp 11))), .mk (some 162) none (.k (.arith .add .i64 (.tmp 161) (.const (.int .i64 1)))), .mk (some 11) none (.k (.mov (.tmp 162)))]
def T5n12 : XC := .seq (.seq (.ops [.mk (some 139) none (.k (.mov (.tmp 11))), .mk (some 140) none (.k (.mov (.tmp 7))), .mk (some 141) none (.k (.lenS (.tmp 140))), .mk (some 142) none (.k (.cmp .geq .i64 (.tmp 139) (.tmp 141))), .mk (some 143) none (.k (.mov (.tmp 142))), .mk (some 144) (some (143, false)) (.k (.mov (.tmp 7))), .mk (some 145) (some (143, false)) (.k (.mov (.tmp 11))), .mk (some 146) (some (143, false)) (.k (.idx 2 (.tmp 144) (.tmp 145))), .mk (some 147) (some (143, false)) (.k (.idxA 2 1 (.tmp 146) (.const (.int .i64 0)))), .mk (some 148) (some (143, false)) (.k (.load [.int .i64] false (.tmp 147))), .mk (some 149) (some (143, false)) (.k (.mov (.tmp 15))), .mk (some 150) (some (143, false)) (.k (.cmp .neq .i64 (.tmp 148) (.tmp 149))), .mk (some 151) none (.k (.pick (.tmp 143) (.const (.bool true)) (.tmp 150))), .mk (some 152) none (.k (.mov (.tmp 151))), .mk (some 153) (some (152, false)) (.k (.mov (.tmp 7))), .mk (some 154) (some (152, false)) (.k (.mov (.tmp 11))), .mk (some 155) (some (152, false)) (.k (.idx 2 (.tmp 153) (.tmp 154))), .mk (some 156) (some (152, false)) (.k (.idxA 2 1 (.tmp 155) (.const (.int .i64 1)))), .mk (some 157) (some (152, false)) (.k (.load [.int .i64] false (.tmp 156))), .mk (some 158) (some (152, false)) (.k (.mov (.tmp 17))), .mk (some 159) (some (152, false)) (.k (.cmp .neq .i64 (.tmp 157) (.tmp 158))), .mk (some 160) none (.k (.pick (.tmp 152) (.const (.bool true)) (.tmp 159)))]) (.cond (.tmp 160) (.ref 10) .skip)) (.ref 11)
def T5n13 : XC := .seq (.seq (.ops [.mk (some 131) none (.k (.mov (.tmp 5))), .mk (some 132) none (.k (.mov (.tmp 17))), .mk (some 133) none (.k (.idx 1 (.tmp 131) (.tmp 132))), .mk (some 134) none (.k (.load [.slc] false (.tmp 133))), .mk (some 135) none (.k (.mov (.tmp 15))), .mk (some 136) none (.k (.idx 1 (.tmp 134) (.tmp 135))), .mk (some 137) none (.k (.load [.bool] false (.tmp 136))), .mk (some 138) none (.k (.not (.tmp 137)))]) (.cond (.tmp 138) (.exit 7) .skip)) (.ref 12)
def T5n14 : XC := .ops [.mk (some 121) none (.k (.mov (.tmp 16))), .mk (some 122) none (.k (.arith .add .i64 (.tmp 121) (.const (.int .i64 1)))), .mk (some 16) none (.k (.mov (.tmp 122)))]
def T5n15 : XC := .seq (.blk 7 (.seq (.ops [.mk (some 123) none (.k (.mov (.tmp 9))), .mk (some 124) none (.k (.mov (.tmp 15))), .mk (some 125) none (.k (.idx 3 (.tmp 123) (.tmp 124))), .mk (some 126) none (.k (.fld 2 (.tmp 125))), .mk (some 127) none (.k (.load [.slc] false (.tmp 126))), .mk (some 128) none (.k (.mov (.tmp 16))), .mk (some 129) none (.k (.idx 1 (.tmp 127) (.tmp 128))), .mk (some 130) none (.k (.load [.int .i64] false (.tmp 129))), .mk (some 17) none (.k (.mov (.tmp 130)))]) (.ref 13))) (.ref 14)
def T5n16 : XC := .seq (.seq (.ops [.mk (some 113) none (.k (.mov (.tmp 16))), .mk (some 114) none (.k (.mov (.tmp 9))), .mk (some 115) none (.k (.mov (.tmp 15))), .mk (some 116) none (.k (.idx 3 (.tmp 114) (.tmp 115))), .mk (some 117) none (.k (.fld 2 (.tmp 116))), .mk (some 118) none (.k (.load [.slc] false (.tmp 117))), .mk (some 119) none (.k (.lenS (.tmp 118))), .mk (some 120) none (.k (.cmp .lss .i64 (.tmp 113) (.tmp 119)))]) (.cond (.tmp 120) .skip (.exit 6))) (.ref 15)
def T5n17 : XC := .ops [.mk (some 111) none (.k (.mov (.tmp 15))), .mk (some 112) none (.k (.arith .add .i64 (.tmp 111) (.const (.int .i64 1)))), .mk (some 15) none (.k (.mov (.tmp 112)))]
def T5n18 : XC := .seq (.blk 5 (.seq (.ops [.mk (some 16) none (.k (.mov (.const (.int .i64 0))))]) (.blk 6 (.loop (.ref 16))))) (.ref 17)
def T5n19 : XC := .seq (.seq (.ops [.mk (some 107) none (.k (.mov (.tmp 15))), .mk (some 108) none (.k (.mov (.tmp 9))), .mk (some 109) none (.k (.lenS (.tmp 108))), .mk (some 110) none (.k (.cmp .lss .i64 (.tmp 107) (.tmp 109)))]) (.cond (.tmp 110) .skip (.exit 4))) (.ref 18)
def T5n20 : XC := .seq (.ops [.mk (some 163) none (.k (.mov (.tmp 11))), .mk (some 164) none (.k (.mov (.tmp 7))), .mk (some 165) none (.k (.lenS (.tmp 164))), .mk (some 166) none (.k (.cmp .eql .i64 (.tmp 163) (.tmp 165))), .mk (some 2) none (.k (.mov (.tmp 166)))]) .ret
def T5n21 : XC := .seq (.seq (.ops [.mk (some 15) none (.k (.mov (.const (.int .i64 0))))]) (.blk 4 (.loop (.ref 19)))) (.ref 20)
def T5n22 : XC := .seq (.seq (.ops [.mk (some 12) none (.k (.mov (.const (.int .i64 0))))]) (.blk 0 (.loop (.ref 9)))) (.ref 21)
def T5n23 : XC := .seq (.ops [.mk (some 11) none (.k (.mov (.const (.int .i64 0))))]) (.ref 22)
def T5n24 : XC := .seq (.seq (.ops [.mk (some 40) none (.k (.mov (.tmp 4))), .mk (some 41) none (.k (.cmp .neq .i64 (.tmp 40) (.const (.int .i64 0)))), .mk (some 42) none (.k (.mov (.tmp 41))), .mk (some 43) (some (42, false)) (.k (.mov (.tmp 6))), .mk (some 44) (some (42, false)) (.k (.cmp .neq .i64 (.tmp 43) (.const (.int .i64 0)))), .mk (some 45) none (.k (.pick (.tmp 42) (.const (.bool true)) (.tmp 44))), .mk (some 46) none (.k (.mov (.tmp 45))), .mk (some 47) (some (46, false)) (.k (.mov (.tmp 8))), .mk (some 48) (some (46, false)) (.k (.cmp .neq .i64 (.tmp 47) (.const (.int .i64 0)))), .mk (some 49) none (.k (.pick (.tmp 46) (.const (.bool true)) (.tmp 48))), .mk (some 50) none (.k (.mov (.tmp 49))), .mk (some 51) (some (50, false)) (.k (.mov (.tmp 3))), .mk (some 52) (some (50, false)) (.k (.mov (.tmp 10))), .mk (some 53) (some (50, false)) (.call 18 [.tmp 51, .tmp 52]), .mk (some 54) (some (50, false)) (.k (.not (.tmp 53))), .mk (some 55) none (.k (.pick (.tmp 50) (.const (.bool true)) (.tmp 54))), .mk (some 56) none (.k (.mov (.tmp 55))), .mk (some 57) (some (56, false)) (.k (.mov (.tmp 5))), .mk (some 58) (some (56, false)) (.k (.lenS (.tmp 57))), .mk (some 59) (some (56, false)) (.k (.mov (.tmp 9))), .mk (some 60) (some (56, false)) (.k (.lenS (.tmp 59))), .mk (some 61) (some (56, false)) (.k (.cmp .neq .i64 (.tmp 58) (.tmp 60))), .mk (some 62) none (.k (.pick (.tmp 56) (.const (.bool true)) (.tmp 61)))]) (.cond (.tmp 62) (.ref 1) .skip)) (.ref 23)
def T5n25 : XC := .seq (.ops [.mk (some 38) none (.k (.mov (.tmp 9))), .mk (some 39) none (.call 17 [.tmp 38, .const (.int .i64 (-1))]), .mk (some 10) none (.k (.mov (.tmp 39)))]) (.ref 24)
def T5n26 : XC := .seq (.ops [.mk (some 36) none (.k (.mov (.tmp 0))), .mk (some 37) none (.call 7 [.tmp 36]), .mk (some 9) none (.k (.mov (.tmp 37)))]) (.ref 25)
def T5n27 : XC := .seq (.ops [.mk (some 32) none (.k (.mov (.tmp 0))), .mk (some 33) none (.call 16 [.tmp 32]), .mk (some 31) none (.k (.mov (.tmp 33))), .mk (some 34) none (.k (.ext (.tmp 31) 0)), .mk (some 35) none (.k (.ext (.tmp 31) 1)), .mk (some 7) none (.k (.mov (.tmp 34))), .mk (some 8) none (.k (.mov (.tmp 35)))]) (.ref 26)
def T5n28 : XC := .seq (.ops [.mk (some 27) none (.k (.mov (.tmp 0))), .mk (some 28) none (.call 15 [.tmp 27]), .mk (some 26) none (.k (.mov (.tmp 28))), .mk (some 29) none (.k (.ext (.tmp 26) 0)), .mk (some 30) none (.k (.ext (.tmp 26) 1)), .mk (some 5) none (.k (.mov (.tmp 29))), .mk (some 6) none (.k (.mov (.tmp 30)))]) (.ref 27)
def T5n29 : XC := .seq (.ops [.mk (some 22) none (.k (.mov (.tmp 0))), .mk (some 23) none (.call 14 [.tmp 22]), .mk (some 21) none (.k (.mov (.tmp 23))), .mk (some 24) none (.k (.ext (.tmp 21) 0)), .mk (some 25) none (.k (.ext (.tmp 21) 1)), .mk (some 3) none (.k (.mov (.tmp 24))), .mk (some 4) none (.k (.mov (.tmp 25)))]) (.ref 28)
def T5n30 : XC := .seq (.seq (.ops [.mk (some 18) none (.k (.mov (.tmp 0))), .mk (some 19) none (.k (.lenS (.tmp 18))), .mk (some 20) none (.k (.cmp .gtr .i64 (.tmp 19) (.const (.int .i64 120))))]) (.cond (.tmp 20) (.ref 0) .skip)) (.ref 29)
def T5 : Nat → XC
 | 0 => T5n0
 | 1 => T5n1
 | 2 => T5n2
 | 3 => T5n3
 | 4 => T5n4
 | 5 => T5n5
 | 6 => T5n6
 | 7 => T5n7
 | 8 => T5n8
 | 9 => T5n9
 | 10 => T5n10
 | 11 => T5n11
 | 12 => T5n12
 | 13 => T5n13
 | 14 => T5n14
 | 15 => T5n15
 | 16 => T5n16
 | 17 => T5n17
 | 18 => T5n18
 | 19 => T5n19
 | 20 => T5n20
 | 21 => T5n21
 | 22 => T5n22
 | 23 => T5n23
 | 24 => T5n24
 | 25 => T5n25
 | 26 => T5n26
 | 27 => T5n27
 | 28 => T5n28
 | 29 => T5n29
 | 30 => T5n30
 | _ => .skip
theorem t5n0 : T5 0 = T5n0 := rfl
theorem t5n1 : T5 1 = T5n1 := rfl
theorem t5n2 : T5 2 = T5n2 := rfl
theorem t5n3 : T5 3 = T5n3 := rfl
theorem t5n4 : T5 4 = T5n4 := rfl
theorem t5n5 : T5 5 = T5n5 := rfl
theorem t5n6 : T5 6 = T5n6 := rfl
theorem t5n7 : T5 7 = T5n7 := rfl
theorem t5n8 : T5 8 = T5n8 := rfl
theorem t5n9 : T5 9 = T5n9 := rfl
theorem t5n10 : T5 10 = T5n10 := rfl
theorem t5n11 : T5 11 = T5n11 := rfl
theorem t5n12 : T5 12 = T5n12 := rfl
theorem t5n13 : T5 13 = T5n13 := rfl
theorem t5n14 : T5 14 = T5n14 := rfl
theorem t5n15 : T5 15 = T5n15 := rfl
theorem t5n16 : T5 16 = T5n16 := rfl
theorem t5n17 : T5 17 = T5n17 := rfl
theorem t5n18 : T5 18 = T5n18 := rfl
theorem t5n19 : T5 19 = T5n19 := rfl
theorem t5n20 : T5 20 = T5n20 := rfl
theorem t5n21 : T5 21 = T5n21 := rfl
theorem t5n22 : T5 22 = T5n22 := rfl
theorem t5n23 : T5 23 = T5n23 := rfl
theorem t5n24 : T5 24 = T5n24 := rfl
theorem t5n25 : T5 25 = T5n25 := rfl
theorem t5n26 : T5 26 = T5n26 := rfl
theorem t5n27 : T5 27 = T5n27 := rfl
theorem t5n28 : T5 28 = T5n28 := rfl
theorem t5n29 : T5 29 = T5n29 := rfl
theorem t5n30 : T5 30 = T5n30 := rfl
def X5 : XC := .seq (.ops [.mk (some 2) none (.k (.mov (.const (.bool false))))]) (.ref 30)
abbrev K5 : List Nat := [0, 2, 3, 4, 5, 6, 7, 8, 9, 10, 11, 12, 13, 14, 15, 16, 17, 20, 62, 66, 75, 106, 110, 120, 138, 160]
theorem n5 : Tryd.f5.ntmps = 167 := by kernel_rfl
theorem r5 : resT Tryd.f5.results.toList = some [2] := by kernel_rfl
theorem x5 : cmpF Tryd.prog Tryd.f5 = some (expand T5 32 X5) := by kernel_rfl
def T16n0 : XC := .seq (.ops [.mk (some 2) none (.k (.mov (.const (.slice none 0 0)))), .mk (some 3) none (.k (.mov (.const (.int .i64 2))))]) .ret
def T16n1 : XC := .ops [.mk (some 39) none (.k (.mov (.tmp 6))), .mk (some 40) none (.k (.mov (.tmp 7))), .mk (some 41) none (.k (.mov (.tmp 10))), .mk (some 42) none (.k (.build [.int .i64 0, .int .i64 0] [(0, 1, .tmp 40), (1, 1, .tmp 41)])), .mk (some 43) none (.k (.buildS 56 1 2 [.int .i64 0, .int .i64 0] [(0, .tmp 42)])), .mk (some 44) none (.k (.app 56 2 16 (.tmp 39) (.tmp 43))), .mk (some 6) none (.k (.mov (.tmp 44)))]
def T16n2 : XC := .seq (.ops [.mk (some 32) none (.k (.mov (.tmp 5))), .mk (some 33) none (.k (.mov (.tmp 10))), .mk (some 34) none (.k (.idx 1 (.tmp 32) (.tmp 33))), .mk (some 35) none (.k (.load [.slc] false (.tmp 34))), .mk (some 36) none (.k (.mov (.tmp 7))), .mk (some 37) none (.k (.idx 1 (.tmp 35) (.tmp 36))), .mk (some 38) none (.k (.load [.bool] false (.tmp 37)))]) (.cond (.tmp 38) (.ref 1) .skip)
def T16n3 : XC := .seq (.blk 3 (.seq (.ops [.mk (some 30) none (.k (.idx 1 (.tmp 26) (.tmp 28))), .mk (some 31) none (.k (.load [.int .i64] false (.tmp 30))), .mk (some 10) none (.k (.mov (.tmp 31)))]) (.ref 2))) (.ops [.mk (some 45) none (.k (.arith .add .i64 (.tmp 28) (.const (.int .i64 1)))), .mk (some 28) none (.k (.mov (.tmp 45)))])
def T16n4 : XC := .seq (.cond (.tmp 29) .skip (.exit 2)) (.ref 3)
def T16n5 : XC := .seq (.ops [.mk (some 29) none (.k (.cmp .lss .i64 (.tmp 28) (.tmp 27)))]) (.ref 4)
def T16n6 : XC := .seq (.ops [.mk (some 25) none (.k (.fld 2 (.tmp 8))), .mk (some 26) none (.k (.load [.slc] false (.tmp 25))), .mk (some 27) none (.k (.lenS (.tmp 26))), .mk (some 28) none (.k (.mov (.const (.int .i64 0))))]) (.blk 2 (.loop (.ref 5)))
def T16n7 : XC := .seq (.blk 1 (.seq (.ops [.mk (some 22) none (.k (.mov (.tmp 20))), .mk (some 23) none (.k (.idx 3 (.tmp 18) (.tmp 20))), .mk (some 24) none (.k (.load [.int .i64, .int .i64, .slc] true (.tmp 23))), .mk (some 8) none (.k (.alloc 32 [.int .i64 0, .int .i64 0, .slice none 0 0])), .mk (some 7) none (.k (.mov (.tmp 22))), .mk none none (.k (.store 3 (.tmp 8) (.tmp 24)))]) (.ref 6))) (.ops [.mk (some 46) none (.k (.arith .add .i64 (.tmp 20) (.const (.int .i64 1)))), .mk (some 20) none (.k (.mov (.tmp 46)))])
def T16n8 : XC := .seq (.cond (.tmp 21) .skip (.exit 0)) (.ref 7)
def T16n9 : XC := .seq (.ops [.mk (some 21) none (.k (.cmp .lss .i64 (.tmp 20) (.tmp 19)))]) (.ref 8)
def T16n10 : XC := .seq (.ops [.mk (some 47) none (.k (.mov (.tmp 6))), .mk (some 2) none (.k (.mov (.tmp 47))), .mk (some 3) none (.k (.mov (.const (.int .i64 0))))]) .ret
def T16n11 : XC := .seq (.seq (.ops [.mk (some 18) none (.k (.mov (.tmp 4))), .mk (some 19) none (.k (.lenS (.tmp 18))), .mk (some 20) none (.k (.mov (.const (.int .i64 0))))]) (.blk 0 (.loop (.ref 9)))) (.ref 10)
def T16n12 : XC := .seq (.ops [.mk (some 6) none (.k (.mov (.const (.slice none 0 0))))]) (.ref 11)
def T16n13 : XC := .seq (.ops [.mk (some 16) none (.k (.mov (.tmp 4))), .mk (some 17) none (.call 38 [.tmp 16]), .mk (some 5) none (.k (.mov (.tmp 17)))]) (.ref 12)
def T16n14 : XC := .seq (.ops [.mk (some 14) none (.k (.mov (.tmp 0))), .mk (some 15) none (.call 19 [.tmp 14]), .mk (some 4) none (.k (.mov (.tmp 15)))]) (.ref 13)
def T16n15 : XC := .seq (.seq (.ops [.mk (some 11) none (.k (.mov (.tmp 0))), .mk (some 12) none (.k (.lenS (.tmp 11))), .mk (some 13) none (.k (.cmp .gtr .i64 (.tmp 12) (.const (.int .i64 1024))))]) (.cond (.tmp 13) (.ref 0) .skip)) (.ref 14)
def T16 : Nat → XC
 | 0 => T16n0
 | 1 => T16n1
 | 2 => T16n2
 | 3 => T16n3
 | 4 => T16n4
 | 5 => T16n5
 | 6 => T16n6
 | 7 => T16n7
 | 8 => T16n8
 | 9 => T16n9
 | 10 => T16n10
 | 11 => T16n11
 | 12 => T16n12
 | 13 => T16n13
 | 14 => T16n14
 | 15 => T16n15
 | _ => .skip
theorem t16n0 : T16 0 = T16n0 := rfl
theorem t16n1 : T16 1 = T16n1 := rfl
theorem t16n2 : T16 2 = T16n2 := rfl
theorem t16n3 : T16 3 = T16n3 := rfl
theorem t16n4 : T16 4 = T16n4 := rfl
theorem t16n5 : T16 5 = T16n5 := rfl
theorem t16n6 : T16 6 = T16n6 := rfl
theorem t16n7 : T16 7 = T16n7 := rfl
theorem t16n8 : T16 8 = T16n8 := rfl
theorem t16n9 : T16 9 = T16n9 := rfl
theorem t16n10 : T16 10 = T16n10 := rfl
theorem t16n11 : T16 11 = T16n11 := rfl
theorem t16n12 : T16 12 = T16n12 := rfl
theorem t16n13 : T16 13 = T16n13 := rfl
theorem t16n14 : T16 14 = T16n14 := rfl
theorem t16n15 : T16 15 = T16n15 := rfl
def X16 : XC := .seq (.ops [.mk (some 2) none (.k (.mov (.const (.slice none 0 0)))), .mk (some 3) none (.k (.mov (.const (.int .i64 0))))]) (.ref 15)
abbrev K16 : List Nat := [0, 2, 3, 4, 5, 6, 7, 8, 10, 13, 18, 19, 20, 21, 26, 27, 28, 29, 38]
theorem n16 : Tryd.f16.ntmps = 48 := by kernel_rfl
theorem r16 : resT Tryd.f16.results.toList = some [2, 3] := by kernel_rfl
theorem x16 : cmpF Tryd.prog Tryd.f16 = some (expand T16 17 X16) := by kernel_rfl
def T17n0 : XC := .ops [.mk (some 19) none (.k (.mov (.tmp 5))), .mk (some 20) none (.k (.idx 1 (.tmp 19) (.const (.int .i64 0)))), .mk none none (.k (.store 1 (.tmp 20) (.const (.bool true))))]
def T17n1 : XC := .ops [.mk (some 59) none (.k (.mov (.tmp 5))), .mk (some 60) none (.k (.mov (.tmp 0))), .mk (some 61) none (.k (.mov (.tmp 7))), .mk (some 62) none (.k (.idx 3 (.tmp 60) (.tmp 61))), .mk (some 63) none (.k (.fld 2 (.tmp 62))), .mk (some 64) none (.k (.load [.slc] false (.tmp 63))), .mk (some 65) none (.k (.mov (.tmp 8))), .mk (some 66) none (.k (.idx 1 (.tmp 64) (.tmp 65))), .mk (some 67) none (.k (.load [.int .i64] false (.tmp 66))), .mk (some 68) none (.k (.idx 1 (.tmp 59) (.tmp 67))), .mk none none (.k (.store 1 (.tmp 68) (.const (.bool true))))]
def T17n2 : XC := .ops [.mk (some 47) none (.k (.mov (.tmp 8))), .mk (some 48) none (.k (.arith .add .i64 (.tmp 47) (.const (.int .i64 1)))), .mk (some 8) none (.k (.mov (.tmp 48)))]
def T17n3 : XC := .seq (.blk 5 (.seq (.ops [.mk (some 49) none (.k (.mov (.tmp 0))), .mk (some 50) none (.k (.mov (.tmp 7))), .mk (some 51) none (.k (.idx 3 (.tmp 49) (.tmp 50))), .mk (some 52) none (.k (.fld 2 (.tmp 51))), .mk (some 53) none (.k (.load [.slc] false (.tmp 52))), .mk (some 54) none (.k (.mov (.tmp 8))), .mk (some 55) none (.k (.idx 1 (.tmp 53) (.tmp 54))), .mk (some 56) none (.k (.load [.int .i64] false (.tmp 55))), .mk (some 57) none (.k (.mov (.tmp 1))), .mk (some 58) none (.k (.cmp .neq .i64 (.tmp 56) (.tmp 57)))]) (.cond (.tmp 58) (.ref 1) .skip))) (.ref 2)
def T17n4 : XC := .seq (.seq (.ops [.mk (some 33) none (.k (.mov (.tmp 8))), .mk (some 34) none (.k (.mov (.tmp 0))), .mk (some 35) none (.k (.mov (.tmp 7))), .mk (some 36) none (.k (.idx 3 (.tmp 34) (.tmp 35))), .mk (some 37) none (.k (.fld 2 (.tmp 36))), .mk (some 38) none (.k (.load [.slc] false (.tmp 37))), .mk (some 39) none (.k (.lenS (.tmp 38))), .mk (some 40) none (.k (.cmp .lss .i64 (.tmp 33) (.tmp 39))), .mk (some 41) none (.k (.mov (.tmp 40))), .mk (some 42) (some (41, true)) (.k (.mov (.tmp 5))), .mk (some 43) (some (41, true)) (.k (.mov (.tmp 7))), .mk (some 44) (some (41, true)) (.k (.idx 1 (.tmp 42) (.tmp 43))), .mk (some 45) (some (41, true)) (.k (.load [.bool] false (.tmp 44))), .mk (some 46) none (.k (.pick (.tmp 41) (.tmp 45) (.const (.bool false))))]) (.cond (.tmp 46) .skip (.exit 4))) (.ref 3)
def T17n5 : XC := .ops [.mk (some 31) none (.k (.mov (.tmp 7))), .mk (some 32) none (.k (.arith .add .i64 (.tmp 31) (.const (.int .i64 1)))), .mk (some 7) none (.k (.mov (.tmp 32)))]
def T17n6 : XC := .seq (.blk 3 (.seq (.ops [.mk (some 8) none (.k (.mov (.const (.int .i64 0))))]) (.blk 4 (.loop (.ref 4))))) (.ref 5)
def T17n7 : XC := .seq (.seq (.ops [.mk (some 27) none (.k (.mov (.tmp 7))), .mk (some 28) none (.k (.mov (.tmp 0))), .mk (some 29) none (.k (.lenS (.tmp 28))), .mk (some 30) none (.k (.cmp .lss .i64 (.tmp 27) (.tmp 29)))]) (.cond (.tmp 30) .skip (.exit 2))) (.ref 6)
def T17n8 : XC := .ops [.mk (some 25) none (.k (.mov (.tmp 6))), .mk (some 26) none (.k (.arith .add .i64 (.tmp 25) (.const (.int .i64 1)))), .mk (some 6) none (.k (.mov (.tmp 26)))]
def T17n9 : XC := .seq (.blk 1 (.seq (.ops [.mk (some 7) none (.k (.mov (.const (.int .i64 0))))]) (.blk 2 (.loop (.ref 7))))) (.ref 8)
def T17n10 : XC := .seq (.seq (.ops [.mk (some 21) none (.k (.mov (.tmp 6))), .mk (some 22) none (.k (.mov (.tmp 0))), .mk (some 23) none (.k (.lenS (.tmp 22))), .mk (some 24) none (.k (.cmp .lss .i64 (.tmp 21) (.tmp 23)))]) (.cond (.tmp 24) .skip (.exit 0))) (.ref 9)
def T17n11 : XC := .seq (.ops [.mk (some 69) none (.k (.mov (.tmp 5))), .mk (some 4) none (.k (.mov (.tmp 69)))]) .ret
def T17n12 : XC := .seq (.seq (.ops [.mk (some 6) none (.k (.mov (.const (.int .i64 0))))]) (.blk 0 (.loop (.ref 10)))) (.ref 11)
def T17n13 : XC := .seq (.seq (.ops [.mk (some 12) none (.k (.mov (.tmp 0))), .mk (some 13) none (.k (.lenS (.tmp 12))), .mk (some 14) none (.k (.cmp .gtr .i64 (.tmp 13) (.const (.int .i64 0)))), .mk (some 15) none (.k (.mov (.tmp 14))), .mk (some 16) (some (15, true)) (.k (.mov (.tmp 1))), .mk (some 17) (some (15, true)) (.k (.cmp .neq .i64 (.tmp 16) (.const (.int .i64 0)))), .mk (some 18) none (.k (.pick (.tmp 15) (.tmp 17) (.const (.bool false))))]) (.cond (.tmp 18) (.ref 0) .skip)) (.ref 12)
def T17n14 : XC := .seq (.ops [.mk (some 9) none (.k (.mov (.tmp 0))), .mk (some 10) none (.k (.lenS (.tmp 9))), .mk (some 11) none (.k (.mkslc 4 1 1 [.bool false] (.tmp 10) (.tmp 10))), .mk (some 5) none (.k (.mov (.tmp 11)))]) (.ref 13)
def T17 : Nat → XC
 | 0 => T17n0
 | 1 => T17n1
 | 2 => T17n2
 | 3 => T17n3
 | 4 => T17n4
 | 5 => T17n5
 | 6 => T17n6
 | 7 => T17n7
 | 8 => T17n8
 | 9 => T17n9
 | 10 => T17n10
 | 11 => T17n11
 | 12 => T17n12
 | 13 => T17n13
 | 14 => T17n14
 | _ => .skip
theorem t17n0 : T17 0 = T17n0 := rfl
theorem t17n1 : T17 1 = T17n1 := rfl
theorem t17n2 : T17 2 = T17n2 := rfl
theorem t17n3 : T17 3 = T17n3 := rfl
theorem t17n4 : T17 4 = T17n4 := rfl
theorem t17n5 : T17 5 = T17n5 := rfl
theorem t17n6 : T17 6 = T17n6 := rfl
theorem t17n7 : T17 7 = T17n7 := rfl
theorem t17n8 : T17 8 = T17n8 := rfl
theorem t17n9 : T17 9 = T17n9 := rfl
theorem t17n10 : T17 10 = T17n10 := rfl
theorem t17n11 : T17 11 = T17n11 := rfl
theorem t17n12 : T17 12 = T17n12 := rfl
theorem t17n13 : T17 13 = T17n13 := rfl
theorem t17n14 : T17 14 = T17n14 := rfl
def X17 : XC := .seq (.ops [.mk (some 4) none (.k (.mov (.const (.slice none 0 0))))]) (.ref 14)
abbrev K17 : List Nat := [0, 1, 4, 5, 6, 7, 8, 18, 24, 30, 46, 58]
theorem n17 : Tryd.f17.ntmps = 70 := by kernel_rfl
theorem r17 : resT Tryd.f17.results.toList = some [4] := by kernel_rfl
theorem x17 : cmpF Tryd.prog Tryd.f17 = some (expand T17 16 X17) := by kernel_rfl
def T18n0 : XC := .seq (.ops [.mk (some 4) none (.k (.mov (.const (.bool false))))]) .ret
def T18n1 : XC := .seq (.ops [.mk (some 4) none (.k (.mov (.const (.bool false))))]) .ret
def T18n2 : XC := .ops [.mk (some 15) none (.k (.mov (.tmp 5))), .mk (some 16) none (.k (.arith .add .i64 (.tmp 15) (.const (.int .i64 1)))), .mk (some 5) none (.k (.mov (.tmp 16)))]
def T18n3 : XC := .seq (.blk 1 (.seq (.ops [.mk (some 17) none (.k (.mov (.tmp 0))), .mk (some 18) none (.k (.mov (.tmp 5))), .mk (some 19) none (.k (.idx 1 (.tmp 17) (.tmp 18))), .mk (some 20) none (.k (.load [.bool] false (.tmp 19))), .mk (some 21) none (.k (.mov (.tmp 1))), .mk (some 22) none (.k (.mov (.tmp 5))), .mk (some 23) none (.k (.idx 1 (.tmp 21) (.tmp 22))), .mk (some 24) none (.k (.load [.bool] false (.tmp 23))), .mk (some 25) none (.k (.eqb true (.tmp 20) (.tmp 24)))]) (.cond (.tmp 25) (.ref 1) .skip))) (.ref 2)
def T18n4 : XC := .seq (.seq (.ops [.mk (some 11) none (.k (.mov (.tmp 5))), .mk (some 12) none (.k (.mov (.tmp 0))), .mk (some 13) none (.k (.lenS (.tmp 12))), .mk (some 14) none (.k (.cmp .lss .i64 (.tmp 11) (.tmp 13)))]) (.cond (.tmp 14) .skip (.exit 0))) (.ref 3)
def T18n5 : XC := .seq (.ops [.mk (some 4) none (.k (.mov (.const (.bool true))))]) .ret
def T18n6 : XC := .seq (.seq (.ops [.mk (some 5) none (.k (.mov (.const (.int .i64 0))))]) (.blk 0 (.loop (.ref 4)))) (.ref 5)
def T18n7 : XC := .seq (.seq (.ops [.mk (some 6) none (.k (.mov (.tmp 0))), .mk (some 7) none (.k (.lenS (.tmp 6))), .mk (some 8) none (.k (.mov (.tmp 1))), .mk (some 9) none (.k (.lenS (.tmp 8))), .mk (some 10) none (.k (.cmp .neq .i64 (.tmp 7) (.tmp 9)))]) (.cond (.tmp 10) (.ref 0) .skip)) (.ref 6)
def T18 : Nat → XC
 | 0 => T18n0
 | 1 => T18n1
 | 2 => T18n2
 | 3 => T18n3
 | 4 => T18n4
 | 5 => T18n5
 | 6 => T18n6
 | 7 => T18n7
 | _ => .skip
theorem t18n0 : T18 0 = T18n0 := rfl
theorem t18n1 : T18 1 = T18n1 := rfl
theorem t18n2 : T18 2 = T18n2 := rfl
theorem t18n3 : T18 3 = T18n3 := rfl
theorem t18n4 : T18 4 = T18n4 := rfl
theorem t18n5 : T18 5 = T18n5 := rfl
theorem t18n6 : T18 6 = T18n6 := rfl
theorem t18n7 : T18 7 = T18n7 := rfl
def X18 : XC := .seq (.ops [.mk (some 4) none (.k (.mov (.const (.bool false))))]) (.ref 7)
abbrev K18 : List Nat := [0, 1, 4, 5, 10, 14, 25]
theorem n18 : Tryd.f18.ntmps = 26 := by kernel_rfl
theorem r18 : resT Tryd.f18.results.toList = some [4] := by kernel_rfl
theorem x18 : cmpF Tryd.prog Tryd.f18 = some (expand T18 9 X18) := by kernel_rfl
end Go.Proofs.YtgghmmjoplddbaaDoor
