/- Printed by program: the small code of functions, and that it is theirs. -/
import Derived.Test.YtgghmmjoplddbaaDoorSxStill
import Derived.Test.YtgghmmjoplddbaaDoorProg
import Derived.KernelRfl
set_option linter.unusedSimpArgs false
set_option linter.unusedVariables false
set_option linter.unnecessarySimpa false
namespace Go.Proofs.YtgghmmjoplddbaaDoor
open Go Go.Sx
set_option maxRecDepth 100000
def T7n0 : XC := .ops [.mk (some 44) none (.k (.mov (.tmp 7))), .mk (some 45) none (.k (.arith .add .i64 (.tmp 44) (.const (.int .i64 1)))), .mk (some 7) none (.k (.mov (.tmp 45)))]
def T7n1 : XC := .seq (.blk 3 (.ops [.mk (some 46) none (.k (.mov (.tmp 3))), .mk (some 47) none (.k (.mov (.tmp 5))), .mk (some 48) none (.k (.mov (.tmp 7))), .mk (some 49) none (.k (.idx 1 (.tmp 47) (.tmp 48))), .mk (some 50) none (.k (.load [.int .i64] false (.tmp 49))), .mk (some 51) none (.k (.idx 1 (.tmp 46) (.tmp 50))), .mk none none (.k (.store 1 (.tmp 51) (.const (.bool true))))])) (.ref 0)
def T7n2 : XC := .seq (.seq (.ops [.mk (some 40) none (.k (.mov (.tmp 7))), .mk (some 41) none (.k (.mov (.tmp 5))), .mk (some 42) none (.k (.lenS (.tmp 41))), .mk (some 43) none (.k (.cmp .lss .i64 (.tmp 40) (.tmp 42)))]) (.cond (.tmp 43) .skip (.exit 2))) (.ref 1)
def T7n3 : XC := .seq (.ops [.mk (some 7) none (.k (.mov (.const (.int .i64 0))))]) (.blk 2 (.loop (.ref 2)))
def T7n4 : XC := .seq (.ops [.mk (some 36) none (.k (.mov (.tmp 3))), .mk (some 37) none (.k (.mov (.tmp 4))), .mk (some 38) none (.k (.arith .add .i64 (.tmp 37) (.const (.int .i64 1)))), .mk (some 39) none (.k (.idx 1 (.tmp 36) (.tmp 38))), .mk none none (.k (.store 1 (.tmp 39) (.const (.bool true))))]) (.ref 3)
def T7n5 : XC := .seq (.ops [.mk (some 35) none (.k (.mov (.tmp 6)))]) (.cond (.tmp 35) (.ref 4) .skip)
def T7n6 : XC := .ops [.mk (some 27) none (.k (.mov (.tmp 4))), .mk (some 28) none (.k (.arith .add .i64 (.tmp 27) (.const (.int .i64 1)))), .mk (some 4) none (.k (.mov (.tmp 28)))]
def T7n7 : XC := .seq (.blk 1 (.seq (.ops [.mk (some 30) none (.k (.mov (.tmp 0))), .mk (some 31) none (.k (.mov (.tmp 4))), .mk (some 32) none (.call 20 [.tmp 30, .tmp 31]), .mk (some 29) none (.k (.mov (.tmp 32))), .mk (some 33) none (.k (.ext (.tmp 29) 0)), .mk (some 34) none (.k (.ext (.tmp 29) 1)), .mk (some 5) none (.k (.mov (.tmp 33))), .mk (some 6) none (.k (.mov (.tmp 34)))]) (.ref 5))) (.ref 6)
def T7n8 : XC := .seq (.seq (.ops [.mk (some 23) none (.k (.mov (.tmp 4))), .mk (some 24) none (.k (.mov (.tmp 0))), .mk (some 25) none (.k (.lenS (.tmp 24))), .mk (some 26) none (.k (.cmp .lss .i64 (.tmp 23) (.tmp 25)))]) (.cond (.tmp 26) .skip (.exit 0))) (.ref 7)
def T7n9 : XC := .ops [.mk (some 66) none (.k (.mov (.tmp 9))), .mk (some 67) none (.k (.mov (.tmp 10))), .mk (some 68) none (.k (.build [.int .i64 0, .int .i64 0, .slice none 0 0] [(0, 1, .tmp 67)])), .mk (some 69) none (.k (.buildS 32 1 3 [.int .i64 0, .int .i64 0, .slice none 0 0] [(0, .tmp 68)])), .mk (some 70) none (.k (.app 32 3 40 (.tmp 66) (.tmp 69))), .mk (some 9) none (.k (.mov (.tmp 70)))]
def T7n10 : XC := .ops [.mk (some 71) none (.k (.mov (.tmp 8))), .mk (some 72) none (.k (.mov (.tmp 10))), .mk (some 73) none (.k (.mov (.tmp 9))), .mk (some 74) none (.k (.lenS (.tmp 73))), .mk (some 75) none (.k (.arith .sub .i64 (.tmp 74) (.const (.int .i64 1)))), .mk (some 76) none (.k (.idx 1 (.tmp 71) (.tmp 72))), .mk none none (.k (.store 1 (.tmp 76) (.tmp 75)))]
def T7n11 : XC := .ops [.mk (some 60) none (.k (.mov (.tmp 10))), .mk (some 61) none (.k (.arith .add .i64 (.tmp 60) (.const (.int .i64 1)))), .mk (some 10) none (.k (.mov (.tmp 61)))]
def T7n12 : XC := .seq (.blk 5 (.seq (.seq (.ops [.mk (some 62) none (.k (.mov (.tmp 3))), .mk (some 63) none (.k (.mov (.tmp 10))), .mk (some 64) none (.k (.idx 1 (.tmp 62) (.tmp 63))), .mk (some 65) none (.k (.load [.bool] false (.tmp 64)))]) (.cond (.tmp 65) (.ref 9) .skip)) (.ref 10))) (.ref 11)
def T7n13 : XC := .seq (.seq (.ops [.mk (some 56) none (.k (.mov (.tmp 10))), .mk (some 57) none (.k (.mov (.tmp 0))), .mk (some 58) none (.k (.lenS (.tmp 57))), .mk (some 59) none (.k (.cmp .lss .i64 (.tmp 56) (.tmp 58)))]) (.cond (.tmp 59) .skip (.exit 4))) (.ref 12)
def T7n14 : XC := .ops [.mk (some 94) none (.k (.mov (.tmp 9))), .mk (some 95) none (.k (.mov (.tmp 11))), .mk (some 96) none (.k (.mov (.tmp 9))), .mk (some 97) none (.k (.mov (.tmp 11))), .mk (some 98) none (.k (.arith .add .i64 (.tmp 97) (.const (.int .i64 1)))), .mk (some 99) none (.k (.idx 3 (.tmp 96) (.tmp 98))), .mk (some 100) none (.k (.fld 0 (.tmp 99))), .mk (some 101) none (.k (.load [.int .i64] false (.tmp 100))), .mk (some 102) none (.k (.idx 3 (.tmp 94) (.tmp 95))), .mk (some 103) none (.k (.fld 1 (.tmp 102))), .mk none none (.k (.store 1 (.tmp 103) (.tmp 101)))]
def T7n15 : XC := .ops [.mk (some 125) none (.k (.mov (.tmp 16))), .mk (some 126) none (.k (.arith .add .i64 (.tmp 125) (.const (.int .i64 1)))), .mk (some 16) none (.k (.mov (.tmp 126)))]
def T7n16 : XC := .seq (.blk 11 (.ops [.mk (some 127) none (.k (.mov (.tmp 15))), .mk (some 128) none (.k (.mov (.tmp 127))), .mk (some 129) (some (128, false)) (.k (.mov (.tmp 8))), .mk (some 130) (some (128, false)) (.k (.mov (.tmp 12))), .mk (some 131) (some (128, false)) (.k (.mov (.tmp 16))), .mk (some 132) (some (128, false)) (.k (.idx 1 (.tmp 130) (.tmp 131))), .mk (some 133) (some (128, false)) (.k (.load [.int .i64] false (.tmp 132))), .mk (some 134) (some (128, false)) (.k (.idx 1 (.tmp 129) (.tmp 133))), .mk (some 135) (some (128, false)) (.k (.load [.int .i64] false (.tmp 134))), .mk (some 136) (some (128, false)) (.k (.mov (.tmp 14))), .mk (some 137) (some (128, false)) (.k (.cmp .eql .i64 (.tmp 135) (.tmp 136))), .mk (some 138) none (.k (.pick (.tmp 128) (.const (.bool true)) (.tmp 137))), .mk (some 15) none (.k (.mov (.tmp 138)))])) (.ref 15)
def T7n17 : XC := .seq (.seq (.ops [.mk (some 121) none (.k (.mov (.tmp 16))), .mk (some 122) none (.k (.mov (.tmp 12))), .mk (some 123) none (.k (.lenS (.tmp 122))), .mk (some 124) none (.k (.cmp .lss .i64 (.tmp 121) (.tmp 123)))]) (.cond (.tmp 124) .skip (.exit 10))) (.ref 16)
def T7n18 : XC := .ops [.mk (some 140) none (.k (.mov (.tmp 9))), .mk (some 141) none (.k (.mov (.tmp 11))), .mk (some 142) none (.k (.mov (.tmp 9))), .mk (some 143) none (.k (.mov (.tmp 11))), .mk (some 144) none (.k (.idx 3 (.tmp 142) (.tmp 143))), .mk (some 145) none (.k (.fld 2 (.tmp 144))), .mk (some 146) none (.k (.load [.slc] false (.tmp 145))), .mk (some 147) none (.k (.mov (.tmp 14))), .mk (some 148) none (.k (.buildS 3 1 1 [.int .i64 0] [(0, .tmp 147)])), .mk (some 149) none (.k (.app 3 1 8 (.tmp 146) (.tmp 148))), .mk (some 150) none (.k (.idx 3 (.tmp 140) (.tmp 141))), .mk (some 151) none (.k (.fld 2 (.tmp 150))), .mk none none (.k (.store 1 (.tmp 151) (.tmp 149)))]
def T7n19 : XC := .seq (.ops [.mk (some 139) none (.k (.mov (.tmp 15)))]) (.cond (.tmp 139) (.ref 18) .skip)
def T7n20 : XC := .seq (.seq (.ops [.mk (some 16) none (.k (.mov (.const (.int .i64 0))))]) (.blk 10 (.loop (.ref 17)))) (.ref 19)
def T7n21 : XC := .ops [.mk (some 119) none (.k (.mov (.tmp 14))), .mk (some 120) none (.k (.arith .add .i64 (.tmp 119) (.const (.int .i64 1)))), .mk (some 14) none (.k (.mov (.tmp 120)))]
def T7n22 : XC := .seq (.blk 9 (.seq (.ops [.mk (some 15) none (.k (.mov (.const (.bool false))))]) (.ref 20))) (.ref 21)
def T7n23 : XC := .seq (.seq (.ops [.mk (some 115) none (.k (.mov (.tmp 14))), .mk (some 116) none (.k (.mov (.tmp 9))), .mk (some 117) none (.k (.lenS (.tmp 116))), .mk (some 118) none (.k (.cmp .lss .i64 (.tmp 115) (.tmp 117)))]) (.cond (.tmp 118) .skip (.exit 8))) (.ref 22)
def T7n24 : XC := .seq (.ops [.mk (some 14) none (.k (.mov (.const (.int .i64 0))))]) (.blk 8 (.loop (.ref 23)))
def T7n25 : XC := .seq (.ops [.mk (some 105) none (.k (.mov (.tmp 0))), .mk (some 106) none (.k (.mov (.tmp 9))), .mk (some 107) none (.k (.mov (.tmp 11))), .mk (some 108) none (.k (.idx 3 (.tmp 106) (.tmp 107))), .mk (some 109) none (.k (.fld 1 (.tmp 108))), .mk (some 110) none (.k (.load [.int .i64] false (.tmp 109))), .mk (some 111) none (.k (.arith .sub .i64 (.tmp 110) (.const (.int .i64 1)))), .mk (some 112) none (.call 20 [.tmp 105, .tmp 111]), .mk (some 104) none (.k (.mov (.tmp 112))), .mk (some 113) none (.k (.ext (.tmp 104) 0)), .mk (some 114) none (.k (.ext (.tmp 104) 1)), .mk (some 12) none (.k (.mov (.tmp 113))), .mk (some 13) none (.k (.mov (.tmp 114)))]) (.ref 24)
def T7n26 : XC := .seq (.seq (.ops [.mk (some 89) none (.k (.mov (.tmp 11))), .mk (some 90) none (.k (.arith .add .i64 (.tmp 89) (.const (.int .i64 1)))), .mk (some 91) none (.k (.mov (.tmp 9))), .mk (some 92) none (.k (.lenS (.tmp 91))), .mk (some 93) none (.k (.cmp .lss .i64 (.tmp 90) (.tmp 92)))]) (.cond (.tmp 93) (.ref 14) .skip)) (.ref 25)
def T7n27 : XC := .ops [.mk (some 81) none (.k (.mov (.tmp 11))), .mk (some 82) none (.k (.arith .add .i64 (.tmp 81) (.const (.int .i64 1)))), .mk (some 11) none (.k (.mov (.tmp 82)))]
def T7n28 : XC := .seq (.blk 7 (.seq (.ops [.mk (some 83) none (.k (.mov (.tmp 9))), .mk (some 84) none (.k (.mov (.tmp 11))), .mk (some 85) none (.k (.mov (.tmp 0))), .mk (some 86) none (.k (.lenS (.tmp 85))), .mk (some 87) none (.k (.idx 3 (.tmp 83) (.tmp 84))), .mk (some 88) none (.k (.fld 1 (.tmp 87))), .mk none none (.k (.store 1 (.tmp 88) (.tmp 86)))]) (.ref 26))) (.ref 27)
def T7n29 : XC := .seq (.seq (.ops [.mk (some 77) none (.k (.mov (.tmp 11))), .mk (some 78) none (.k (.mov (.tmp 9))), .mk (some 79) none (.k (.lenS (.tmp 78))), .mk (some 80) none (.k (.cmp .lss .i64 (.tmp 77) (.tmp 79)))]) (.cond (.tmp 80) .skip (.exit 6))) (.ref 28)
def T7n30 : XC := .seq (.ops [.mk (some 152) none (.k (.mov (.tmp 9))), .mk (some 2) none (.k (.mov (.tmp 152)))]) .ret
def T7n31 : XC := .seq (.seq (.ops [.mk (some 11) none (.k (.mov (.const (.int .i64 0))))]) (.blk 6 (.loop (.ref 29)))) (.ref 30)
def T7n32 : XC := .seq (.seq (.ops [.mk (some 10) none (.k (.mov (.const (.int .i64 0))))]) (.blk 4 (.loop (.ref 13)))) (.ref 31)
def T7n33 : XC := .seq (.ops [.mk (some 9) none (.k (.mov (.const (.slice none 0 0))))]) (.ref 32)
def T7n34 : XC := .seq (.ops [.mk (some 52) none (.k (.mov (.tmp 0))), .mk (some 53) none (.k (.lenS (.tmp 52))), .mk (some 54) none (.k (.arith .add .i64 (.tmp 53) (.const (.int .i64 1)))), .mk (some 55) none (.k (.mkslc 3 1 8 [.int .i64 0] (.tmp 54) (.tmp 54))), .mk (some 8) none (.k (.mov (.tmp 55)))]) (.ref 33)
def T7n35 : XC := .seq (.seq (.ops [.mk (some 4) none (.k (.mov (.const (.int .i64 0))))]) (.blk 0 (.loop (.ref 8)))) (.ref 34)
def T7n36 : XC := .seq (.ops [.mk (some 21) none (.k (.mov (.tmp 3))), .mk (some 22) none (.k (.idx 1 (.tmp 21) (.const (.int .i64 0)))), .mk none none (.k (.store 1 (.tmp 22) (.const (.bool true))))]) (.ref 35)
def T7n37 : XC := .seq (.ops [.mk (some 17) none (.k (.mov (.tmp 0))), .mk (some 18) none (.k (.lenS (.tmp 17))), .mk (some 19) none (.k (.arith .add .i64 (.tmp 18) (.const (.int .i64 1)))), .mk (some 20) none (.k (.mkslc 4 1 1 [.bool false] (.tmp 19) (.tmp 19))), .mk (some 3) none (.k (.mov (.tmp 20)))]) (.ref 36)
def T7 : Nat → XC
 | 0 => T7n0
 | 1 => T7n1
 | 2 => T7n2
 | 3 => T7n3
 | 4 => T7n4
 | 5 => T7n5
 | 6 => T7n6
 | 7 => T7n7
 | 8 => T7n8
 | 9 => T7n9
 | 10 => T7n10
 | 11 => T7n11
 | 12 => T7n12
 | 13 => T7n13
 | 14 => T7n14
 | 15 => T7n15
 | 16 => T7n16
 | 17 => T7n17
 | 18 => T7n18
 | 19 => T7n19
 | 20 => T7n20
 | 21 => T7n21
 | 22 => T7n22
 | 23 => T7n23
 | 24 => T7n24
 | 25 => T7n25
 | 26 => T7n26
 | 27 => T7n27
 | 28 => T7n28
 | 29 => T7n29
 | 30 => T7n30
 | 31 => T7n31
 | 32 => T7n32
 | 33 => T7n33
 | 34 => T7n34
 | 35 => T7n35
 | 36 => T7n36
 | 37 => T7n37
 | _ => .skip
theorem t7n0 : T7 0 = T7n0 := rfl
theorem t7n1 : T7 1 = T7n1 := rfl
theorem t7n2 : T7 2 = T7n2 := rfl
theorem t7n3 : T7 3 = T7n3 := rfl
theorem t7n4 : T7 4 = T7n4 := rfl
theorem t7n5 : T7 5 = T7n5 := rfl
theorem t7n6 : T7 6 = T7n6 := rfl
theorem t7n7 : T7 7 = T7n7 := rfl
theorem t7n8 : T7 8 = T7n8 := rfl
theorem t7n9 : T7 9 = T7n9 := rfl
theorem t7n10 : T7 10 = T7n10 := rfl
theorem t7n11 : T7 11 = T7n11 := rfl
theorem t7n12 : T7 12 = T7n12 := rfl
theorem t7n13 : T7 13 = T7n13 := rfl
theorem t7n14 : T7 14 = T7n14 := rfl
theorem t7n15 : T7 15 = T7n15 := rfl
theorem t7n16 : T7 16 = T7n16 := rfl
theorem t7n17 : T7 17 = T7n17 := rfl
theorem t7n18 : T7 18 = T7n18 := rfl
theorem t7n19 : T7 19 = T7n19 := rfl
theorem t7n20 : T7 20 = T7n20 := rfl
theorem t7n21 : T7 21 = T7n21 := rfl
theorem t7n22 : T7 22 = T7n22 := rfl
theorem t7n23 : T7 23 = T7n23 := rfl
theorem t7n24 : T7 24 = T7n24 := rfl
theorem t7n25 : T7 25 = T7n25 := rfl
theorem t7n26 : T7 26 = T7n26 := rfl
theorem t7n27 : T7 27 = T7n27 := rfl
theorem t7n28 : T7 28 = T7n28 := rfl
theorem t7n29 : T7 29 = T7n29 := rfl
theorem t7n30 : T7 30 = T7n30 := rfl
theorem t7n31 : T7 31 = T7n31 := rfl
theorem t7n32 : T7 32 = T7n32 := rfl
theorem t7n33 : T7 33 = T7n33 := rfl
theorem t7n34 : T7 34 = T7n34 := rfl
theorem t7n35 : T7 35 = T7n35 := rfl
theorem t7n36 : T7 36 = T7n36 := rfl
theorem t7n37 : T7 37 = T7n37 := rfl
def X7 : XC := .seq (.ops [.mk (some 2) none (.k (.mov (.const (.slice none 0 0))))]) (.ref 37)
abbrev K7 : List Nat := [0, 2, 3, 4, 5, 6, 7, 8, 9, 10, 11, 12, 14, 15, 16, 26, 35, 43, 59, 65, 80, 93, 118, 124, 139]
theorem n7 : Tryd.f7.ntmps = 153 := by kernel_rfl
theorem r7 : resT Tryd.f7.results.toList = some [2] := by kernel_rfl
theorem x7 : cmpF Tryd.prog Tryd.f7 = some (expand T7 39 X7) := by kernel_rfl
def T20n0 : XC := .seq (.ops [.mk (some 4) none (.k (.mov (.const (.slice none 0 0)))), .mk (some 5) none (.k (.mov (.const (.bool true))))]) .ret
def T20n1 : XC := .ops [.mk (some 44) none (.k (.mov (.tmp 9))), .mk (some 45) none (.k (.fld 4 (.tmp 6))), .mk (some 46) none (.k (.load [.int .i64] false (.tmp 45))), .mk (some 47) none (.k (.buildS 3 1 1 [.int .i64 0] [(0, .tmp 46)])), .mk (some 48) none (.k (.app 3 1 8 (.tmp 44) (.tmp 47))), .mk (some 9) none (.k (.mov (.tmp 48)))]
def T20n2 : XC := .ops [.mk (some 59) none (.k (.mov (.tmp 9))), .mk (some 60) none (.k (.mov (.tmp 1))), .mk (some 61) none (.k (.arith .add .i64 (.tmp 60) (.const (.int .i64 1)))), .mk (some 62) none (.k (.buildS 3 1 1 [.int .i64 0] [(0, .tmp 61)])), .mk (some 63) none (.k (.app 3 1 8 (.tmp 59) (.tmp 62))), .mk (some 9) none (.k (.mov (.tmp 63)))]
def T20n3 : XC := .seq (.ops [.mk (some 64) none (.k (.mov (.tmp 9))), .mk (some 65) none (.k (.mov (.tmp 8))), .mk (some 4) none (.k (.mov (.tmp 64))), .mk (some 5) none (.k (.mov (.tmp 65)))]) .ret
def T20n4 : XC := .seq (.seq (.ops [.mk (some 49) none (.k (.fld 0 (.tmp 6))), .mk (some 50) none (.k (.load [.int .i64] false (.tmp 49))), .mk (some 51) none (.k (.cmp .neq .i64 (.tmp 50) (.const (.int .i64 13)))), .mk (some 52) none (.k (.mov (.tmp 51))), .mk (some 53) (some (52, true)) (.k (.mov (.tmp 1))), .mk (some 54) (some (52, true)) (.k (.arith .add .i64 (.tmp 53) (.const (.int .i64 1)))), .mk (some 55) (some (52, true)) (.k (.mov (.tmp 0))), .mk (some 56) (some (52, true)) (.k (.lenS (.tmp 55))), .mk (some 57) (some (52, true)) (.k (.cmp .lss .i64 (.tmp 54) (.tmp 56))), .mk (some 58) none (.k (.pick (.tmp 52) (.tmp 57) (.const (.bool false))))]) (.cond (.tmp 58) (.ref 2) .skip)) (.ref 3)
def T20n5 : XC := .seq (.seq (.ops [.mk (some 31) none (.k (.mov (.tmp 8))), .mk (some 32) none (.k (.mov (.tmp 31))), .mk (some 33) (some (32, true)) (.k (.fld 4 (.tmp 6))), .mk (some 34) (some (32, true)) (.k (.load [.int .i64] false (.tmp 33))), .mk (some 35) (some (32, true)) (.k (.cmp .geq .i64 (.tmp 34) (.const (.int .i64 0)))), .mk (some 36) none (.k (.pick (.tmp 32) (.tmp 35) (.const (.bool false)))), .mk (some 37) none (.k (.mov (.tmp 36))), .mk (some 38) (some (37, true)) (.k (.fld 4 (.tmp 6))), .mk (some 39) (some (37, true)) (.k (.load [.int .i64] false (.tmp 38))), .mk (some 40) (some (37, true)) (.k (.mov (.tmp 0))), .mk (some 41) (some (37, true)) (.k (.lenS (.tmp 40))), .mk (some 42) (some (37, true)) (.k (.cmp .lss .i64 (.tmp 39) (.tmp 41))), .mk (some 43) none (.k (.pick (.tmp 37) (.tmp 42) (.const (.bool false))))]) (.cond (.tmp 43) (.ref 1) .skip)) (.ref 4)
def T20n6 : XC := .seq (.seq (.ops [.mk (some 24) none (.k (.mov (.tmp 7))), .mk (some 25) none (.k (.not (.tmp 24))), .mk (some 26) none (.k (.mov (.tmp 25))), .mk (some 27) (some (26, false)) (.k (.fld 0 (.tmp 6))), .mk (some 28) (some (26, false)) (.k (.load [.int .i64] false (.tmp 27))), .mk (some 29) (some (26, false)) (.k (.cmp .eql .i64 (.tmp 28) (.const (.int .i64 1)))), .mk (some 30) none (.k (.pick (.tmp 26) (.const (.bool true)) (.tmp 29)))]) (.cond (.tmp 30) (.ref 0) .skip)) (.ref 5)
def T20n7 : XC := .seq (.ops [.mk (some 9) none (.k (.mov (.const (.slice none 0 0))))]) (.ref 6)
def T20n8 : XC := .seq (.ops [.mk (some 16) none (.k (.fld 0 (.tmp 6))), .mk (some 17) none (.k (.load [.int .i64] false (.tmp 16))), .mk (some 18) none (.k (.cmp .geq .i64 (.tmp 17) (.const (.int .i64 13)))), .mk (some 19) none (.k (.mov (.tmp 18))), .mk (some 20) (some (19, true)) (.k (.fld 0 (.tmp 6))), .mk (some 21) (some (19, true)) (.k (.load [.int .i64] false (.tmp 20))), .mk (some 22) (some (19, true)) (.k (.cmp .leq .i64 (.tmp 21) (.const (.int .i64 16)))), .mk (some 23) none (.k (.pick (.tmp 19) (.tmp 22) (.const (.bool false)))), .mk (some 8) none (.k (.mov (.tmp 23)))]) (.ref 7)
def T20n9 : XC := .seq (.ops [.mk (some 14) none (.k (.load [.int .i64, .int .i64, .int .i64, .int .i64, .int .i64] true (.tmp 6))), .mk (some 15) none (.call 35 [.tmp 14]), .mk (some 7) none (.k (.mov (.tmp 15)))]) (.ref 8)
def T20n10 : XC := .seq (.ops [.mk (some 10) none (.k (.mov (.tmp 0))), .mk (some 11) none (.k (.mov (.tmp 1))), .mk (some 12) none (.k (.idx 5 (.tmp 10) (.tmp 11))), .mk (some 13) none (.k (.load [.int .i64, .int .i64, .int .i64, .int .i64, .int .i64] true (.tmp 12))), .mk (some 6) none (.k (.alloc 37 [.int .i64 0, .int .i64 0, .int .i64 0, .int .i64 0, .int .i64 0])), .mk none none (.k (.store 5 (.tmp 6) (.tmp 13)))]) (.ref 9)
def T20 : Nat → XC
 | 0 => T20n0
 | 1 => T20n1
 | 2 => T20n2
 | 3 => T20n3
 | 4 => T20n4
 | 5 => T20n5
 | 6 => T20n6
 | 7 => T20n7
 | 8 => T20n8
 | 9 => T20n9
 | 10 => T20n10
 | _ => .skip
theorem t20n0 : T20 0 = T20n0 := rfl
theorem t20n1 : T20 1 = T20n1 := rfl
theorem t20n2 : T20 2 = T20n2 := rfl
theorem t20n3 : T20 3 = T20n3 := rfl
theorem t20n4 : T20 4 = T20n4 := rfl
theorem t20n5 : T20 5 = T20n5 := rfl
theorem t20n6 : T20 6 = T20n6 := rfl
theorem t20n7 : T20 7 = T20n7 := rfl
theorem t20n8 : T20 8 = T20n8 := rfl
theorem t20n9 : T20 9 = T20n9 := rfl
theorem t20n10 : T20 10 = T20n10 := rfl
def X20 : XC := .seq (.ops [.mk (some 4) none (.k (.mov (.const (.slice none 0 0)))), .mk (some 5) none (.k (.mov (.const (.bool false))))]) (.ref 10)
abbrev K20 : List Nat := [0, 1, 4, 5, 6, 7, 8, 9, 30, 43, 58]
theorem n20 : Tryd.f20.ntmps = 66 := by kernel_rfl
theorem r20 : resT Tryd.f20.results.toList = some [4, 5] := by kernel_rfl
theorem x20 : cmpF Tryd.prog Tryd.f20 = some (expand T20 12 X20) := by kernel_rfl
end Go.Proofs.YtgghmmjoplddbaaDoor
