/- Printed by program: the small code of functions, and that it is theirs. -/
import Derived.Test.YtlbiogokpadaoaaGreatDoorSxStill
import Derived.Test.YtlbiogokpadaoaaGreatDoorProg
import Derived.KernelRfl
set_option linter.unusedSimpArgs false
set_option linter.unusedVariables false
set_option linter.unnecessarySimpa false
namespace Go.Proofs.YtlbiogokpadaoaaGreatDoor
open Go Go.Sx
set_option maxRecDepth 100000
def T89n0 : XC := .ops [.mk (some 44) none (.k (.mov (.tmp 7))), .mk (some 45) none (.k (.arith .add .i64 (.tmp 44) (.const (.int .i64 1)))), .mk (some 7) none (.k (.mov (.tmp 45)))]
def T89n1 : XC := .seq (.blk 3 (.ops [.mk (some 46) none (.k (.mov (.tmp 3))), .mk (some 47) none (.k (.mov (.tmp 5))), .mk (some 48) none (.k (.mov (.tmp 7))), .mk (some 49) none (.k (.idx 1 (.tmp 47) (.tmp 48))), .mk (some 50) none (.k (.load [.int .i64] false (.tmp 49))), .mk (some 51) none (.k (.idx 1 (.tmp 46) (.tmp 50))), .mk none none (.k (.store 1 (.tmp 51) (.const (.bool true))))])) (.ref 0)
def T89n2 : XC := .seq (.seq (.ops [.mk (some 40) none (.k (.mov (.tmp 7))), .mk (some 41) none (.k (.mov (.tmp 5))), .mk (some 42) none (.k (.lenS (.tmp 41))), .mk (some 43) none (.k (.cmp .lss .i64 (.tmp 40) (.tmp 42)))]) (.cond (.tmp 43) .skip (.exit 2))) (.ref 1)
def T89n3 : XC := .seq (.ops [.mk (some 7) none (.k (.mov (.const (.int .i64 0))))]) (.blk 2 (.loop (.ref 2)))
def T89n4 : XC := .seq (.ops [.mk (some 36) none (.k (.mov (.tmp 3))), .mk (some 37) none (.k (.mov (.tmp 4))), .mk (some 38) none (.k (.arith .add .i64 (.tmp 37) (.const (.int .i64 1)))), .mk (some 39) none (.k (.idx 1 (.tmp 36) (.tmp 38))), .mk none none (.k (.store 1 (.tmp 39) (.const (.bool true))))]) (.ref 3)
def T89n5 : XC := .seq (.ops [.mk (some 35) none (.k (.mov (.tmp 6)))]) (.cond (.tmp 35) (.ref 4) .skip)
def T89n6 : XC := .ops [.mk (some 27) none (.k (.mov (.tmp 4))), .mk (some 28) none (.k (.arith .add .i64 (.tmp 27) (.const (.int .i64 1)))), .mk (some 4) none (.k (.mov (.tmp 28)))]
def T89n7 : XC := .seq (.blk 1 (.seq (.ops [.mk (some 30) none (.k (.mov (.tmp 0))), .mk (some 31) none (.k (.mov (.tmp 4))), .mk (some 32) none (.call 118 [.tmp 30, .tmp 31]), .mk (some 29) none (.k (.mov (.tmp 32))), .mk (some 33) none (.k (.ext (.tmp 29) 0)), .mk (some 34) none (.k (.ext (.tmp 29) 1)), .mk (some 5) none (.k (.mov (.tmp 33))), .mk (some 6) none (.k (.mov (.tmp 34)))]) (.ref 5))) (.ref 6)
def T89n8 : XC := .seq (.seq (.ops [.mk (some 23) none (.k (.mov (.tmp 4))), .mk (some 24) none (.k (.mov (.tmp 0))), .mk (some 25) none (.k (.lenS (.tmp 24))), .mk (some 26) none (.k (.cmp .lss .i64 (.tmp 23) (.tmp 25)))]) (.cond (.tmp 26) .skip (.exit 0))) (.ref 7)
def T89n9 : XC := .ops [.mk (some 66) none (.k (.mov (.tmp 9))), .mk (some 67) none (.k (.mov (.tmp 10))), .mk (some 68) none (.k (.build [.int .i64 0, .int .i64 0, .slice none 0 0] [(0, 1, .tmp 67)])), .mk (some 69) none (.k (.buildS 35 1 3 [.int .i64 0, .int .i64 0, .slice none 0 0] [(0, .tmp 68)])), .mk (some 70) none (.k (.app 35 3 40 (.tmp 66) (.tmp 69))), .mk (some 9) none (.k (.mov (.tmp 70)))]
def T89n10 : XC := .ops [.mk (some 71) none (.k (.mov (.tmp 8))), .mk (some 72) none (.k (.mov (.tmp 10))), .mk (some 73) none (.k (.mov (.tmp 9))), .mk (some 74) none (.k (.lenS (.tmp 73))), .mk (some 75) none (.k (.arith .sub .i64 (.tmp 74) (.const (.int .i64 1)))), .mk (some 76) none (.k (.idx 1 (.tmp 71) (.tmp 72))), .mk none none (.k (.store 1 (.tmp 76) (.tmp 75)))]
def T89n11 : XC := .ops [.mk (some 60) none (.k (.mov (.tmp 10))), .mk (some 61) none (.k (.arith .add .i64 (.tmp 60) (.const (.int .i64 1)))), .mk (some 10) none (.k (.mov (.tmp 61)))]
def T89n12 : XC := .seq (.blk 5 (.seq (.seq (.ops [.mk (some 62) none (.k (.mov (.tmp 3))), .mk (some 63) none (.k (.mov (.tmp 10))), .mk (some 64) none (.k (.idx 1 (.tmp 62) (.tmp 63))), .mk (some 65) none (.k (.load [.bool] false (.tmp 64)))]) (.cond (.tmp 65) (.ref 9) .skip)) (.ref 10))) (.ref 11)
def T89n13 : XC := .seq (.seq (.ops [.mk (some 56) none (.k (.mov (.tmp 10))), .mk (some 57) none (.k (.mov (.tmp 0))), .mk (some 58) none (.k (.lenS (.tmp 57))), .mk (some 59) none (.k (.cmp .lss .i64 (.tmp 56) (.tmp 58)))]) (.cond (.tmp 59) .skip (.exit 4))) (.ref 12)
def T89n14 : XC := .ops [.mk (some 94) none (.k (.mov (.tmp 9))), .mk (some 95) none (.k (.mov (.tmp 11))), .mk (some 96) none (.k (.mov (.tmp 9))), .mk (some 97) none (.k (.mov (.tmp 11))), .mk (some 98) none (.k (.arith .add .i64 (.tmp 97) (.const (.int .i64 1)))), .mk (some 99) none (.k (.idx 3 (.tmp 96) (.tmp 98))), .mk (some 100) none (.k (.fld 0 (.tmp 99))), .mk (some 101) none (.k (.load [.int .i64] false (.tmp 100))), .mk (some 102) none (.k (.idx 3 (.tmp 94) (.tmp 95))), .mk (some 103) none (.k (.fld 1 (.tmp 102))), .mk none none (.k (.store 1 (.tmp 103) (.tmp 101)))]
def T89n15 : XC := .ops [.mk (some 125) none (.k (.mov (.tmp 16))), .mk (some 126) none (.k (.arith .add .i64 (.tmp 125) (.const (.int .i64 1)))), .mk (some 16) none (.k (.mov (.tmp 126)))]
def T89n16 : XC := .seq (.blk 11 (.ops [.mk (some 127) none (.k (.mov (.tmp 15))), .mk (some 128) none (.k (.mov (.tmp 127))), .mk (some 129) (some (128, false)) (.k (.mov (.tmp 8))), .mk (some 130) (some (128, false)) (.k (.mov (.tmp 12))), .mk (some 131) (some (128, false)) (.k (.mov (.tmp 16))), .mk (some 132) (some (128, false)) (.k (.idx 1 (.tmp 130) (.tmp 131))), .mk (some 133) (some (128, false)) (.k (.load [.int .i64] false (.tmp 132))), .mk (some 134) (some (128, false)) (.k (.idx 1 (.tmp 129) (.tmp 133))), .mk (some 135) (some (128, false)) (.k (.load [.int .i64] false (.tmp 134))), .mk (some 136) (some (128, false)) (.k (.mov (.tmp 14))), .mk (some 137) (some (128, false)) (.k (.cmp .eql .i64 (.tmp 135) (.tmp 136))), .mk (some 138) none (.k (.pick (.tmp 128) (.const (.bool true)) (.tmp 137))), .mk (some 15) none (.k (.mov (.tmp 138)))])) (.ref 15)
def T89n17 : XC := .seq (.seq (.ops [.mk (some 121) none (.k (.mov (.tmp 16))), .mk (some 122) none (.k (.mov (.tmp 12))), .mk (some 123) none (.k (.lenS (.tmp 122))), .mk (some 124) none (.k (.cmp .lss .i64 (.tmp 121) (.tmp 123)))]) (.cond (.tmp 124) .skip (.exit 10))) (.ref 16)
def T89n18 : XC := .ops [.mk (some 140) none (.k (.mov (.tmp 9))), .mk (some 141) none (.k (.mov (.tmp 11))), .mk (some 142) none (.k (.mov (.tmp 9))), .mk (some 143) none (.k (.mov (.tmp 11))), .mk (some 144) none (.k (.idx 3 (.tmp 142) (.tmp 143))), .mk (some 145) none (.k (.fld 2 (.tmp 144))), .mk (some 146) none (.k (.load [.slc] false (.tmp 145))), .mk (some 147) none (.k (.mov (.tmp 14))), .mk (some 148) none (.k (.buildS 3 1 1 [.int .i64 0] [(0, .tmp 147)])), .mk (some 149) none (.k (.app 3 1 8 (.tmp 146) (.tmp 148))), .mk (some 150) none (.k (.idx 3 (.tmp 140) (.tmp 141))), .mk (some 151) none (.k (.fld 2 (.tmp 150))), .mk none none (.k (.store 1 (.tmp 151) (.tmp 149)))]
def T89n19 : XC := .seq (.ops [.mk (some 139) none (.k (.mov (.tmp 15)))]) (.cond (.tmp 139) (.ref 18) .skip)
def T89n20 : XC := .seq (.seq (.ops [.mk (some 16) none (.k (.mov (.const (.int .i64 0))))]) (.blk 10 (.loop (.ref 17)))) (.ref 19)
def T89n21 : XC := .ops [.mk (some 119) none (.k (.mov (.tmp 14))), .mk (some 120) none (.k (.arith .add .i64 (.tmp 119) (.const (.int .i64 1)))), .mk (some 14) none (.k (.mov (.tmp 120)))]
def T89n22 : XC := .seq (.blk 9 (.seq (.ops [.mk (some 15) none (.k (.mov (.const (.bool false))))]) (.ref 20))) (.ref 21)
def T89n23 : XC := .seq (.seq (.ops [.mk (some 115) none (.k (.mov (.tmp 14))), .mk (some 116) none (.k (.mov (.tmp 9))), .mk (some 117) none (.k (.lenS (.tmp 116))), .mk (some 118) none (.k (.cmp .lss .i64 (.tmp 115) (.tmp 117)))]) (.cond (.tmp 118) .skip (.exit 8))) (.ref 22)
def T89n24 : XC := .seq (.ops [.mk (some 14) none (.k (.mov (.const (.int .i64 0))))]) (.blk 8 (.loop (.ref 23)))
def T89n25 : XC := .seq (.ops [.mk (some 105) none (.k (.mov (.tmp 0))), .mk (some 106) none (.k (.mov (.tmp 9))), .mk (some 107) none (.k (.mov (.tmp 11))), .mk (some 108) none (.k (.idx 3 (.tmp 106) (.tmp 107))), .mk (some 109) none (.k (.fld 1 (.tmp 108))), .mk (some 110) none (.k (.load [.int .i64] false (.tmp 109))), .mk (some 111) none (.k (.arith .sub .i64 (.tmp 110) (.const (.int .i64 1)))), .mk (some 112) none (.call 118 [.tmp 105, .tmp 111]), .mk (some 104) none (.k (.mov (.tmp 112))), .mk (some 113) none (.k (.ext (.tmp 104) 0)), .mk (some 114) none (.k (.ext (.tmp 104) 1)), .mk (some 12) none (.k (.mov (.tmp 113))), .mk (some 13) none (.k (.mov (.tmp 114)))]) (.ref 24)
def T89n26 : XC := .seq (.seq (.ops [.mk (some 89) none (.k (.mov (.tmp 11))), .mk (some 90) none (.k (.arith .add .i64 (.tmp 89) (.const (.int .i64 1)))), .mk (some 91) none (.k (.mov (.tmp 9))), .mk (some 92) none (.k (.lenS (.tmp 91))), .mk (some 93) none (.k (.cmp .lss .i64 (.tmp 90) (.tmp 92)))]) (.cond (.tmp 93) (.ref 14) .skip)) (.ref 25)
def T89n27 : XC := .ops [.mk (some 81) none (.k (.mov (.tmp 11))), .mk (some 82) none (.k (.arith .add .i64 (.tmp 81) (.const (.int .i64 1)))), .mk (some 11) none (.k (.mov (.tmp 82)))]
def T89n28 : XC := .seq (.blk 7 (.seq (.ops [.mk (some 83) none (.k (.mov (.tmp 9))), .mk (some 84) none (.k (.mov (.tmp 11))), .mk (some 85) none (.k (.mov (.tmp 0))), .mk (some 86) none (.k (.lenS (.tmp 85))), .mk (some 87) none (.k (.idx 3 (.tmp 83) (.tmp 84))), .mk (some 88) none (.k (.fld 1 (.tmp 87))), .mk none none (.k (.store 1 (.tmp 88) (.tmp 86)))]) (.ref 26))) (.ref 27)
def T89n29 : XC := .seq (.seq (.ops [.mk (some 77) none (.k (.mov (.tmp 11))), .mk (some 78) none (.k (.mov (.tmp 9))), .mk (some 79) none (.k (.lenS (.tmp 78))), .mk (some 80) none (.k (.cmp .lss .i64 (.tmp 77) (.tmp 79)))]) (.cond (.tmp 80) .skip (.exit 6))) (.ref 28)
def T89n30 : XC := .seq (.ops [.mk (some 152) none (.k (.mov (.tmp 9))), .mk (some 2) none (.k (.mov (.tmp 152)))]) .ret
def T89n31 : XC := .seq (.seq (.ops [.mk (some 11) none (.k (.mov (.const (.int .i64 0))))]) (.blk 6 (.loop (.ref 29)))) (.ref 30)
def T89n32 : XC := .seq (.seq (.ops [.mk (some 10) none (.k (.mov (.const (.int .i64 0))))]) (.blk 4 (.loop (.ref 13)))) (.ref 31)
def T89n33 : XC := .seq (.ops [.mk (some 9) none (.k (.mov (.const (.slice none 0 0))))]) (.ref 32)
def T89n34 : XC := .seq (.ops [.mk (some 52) none (.k (.mov (.tmp 0))), .mk (some 53) none (.k (.lenS (.tmp 52))), .mk (some 54) none (.k (.arith .add .i64 (.tmp 53) (.const (.int .i64 1)))), .mk (some 55) none (.k (.mkslc 3 1 8 [.int .i64 0] (.tmp 54) (.tmp 54))), .mk (some 8) none (.k (.mov (.tmp 55)))]) (.ref 33)
def T89n35 : XC := .seq (.seq (.ops [.mk (some 4) none (.k (.mov (.const (.int .i64 0))))]) (.blk 0 (.loop (.ref 8)))) (.ref 34)
def T89n36 : XC := .seq (.ops [.mk (some 21) none (.k (.mov (.tmp 3))), .mk (some 22) none (.k (.idx 1 (.tmp 21) (.const (.int .i64 0)))), .mk none none (.k (.store 1 (.tmp 22) (.const (.bool true))))]) (.ref 35)
def T89n37 : XC := .seq (.ops [.mk (some 17) none (.k (.mov (.tmp 0))), .mk (some 18) none (.k (.lenS (.tmp 17))), .mk (some 19) none (.k (.arith .add .i64 (.tmp 18) (.const (.int .i64 1)))), .mk (some 20) none (.k (.mkslc 4 1 1 [.bool false] (.tmp 19) (.tmp 19))), .mk (some 3) none (.k (.mov (.tmp 20)))]) (.ref 36)
def T89 : Nat → XC
 | 0 => T89n0
 | 1 => T89n1
 | 2 => T89n2
 | 3 => T89n3
 | 4 => T89n4
 | 5 => T89n5
 | 6 => T89n6
 | 7 => T89n7
 | 8 => T89n8
 | 9 => T89n9
 | 10 => T89n10
 | 11 => T89n11
 | 12 => T89n12
 | 13 => T89n13
 | 14 => T89n14
 | 15 => T89n15
 | 16 => T89n16
 | 17 => T89n17
 | 18 => T89n18
 | 19 => T89n19
 | 20 => T89n20
 | 21 => T89n21
 | 22 => T89n22
 | 23 => T89n23
 | 24 => T89n24
 | 25 => T89n25
 | 26 => T89n26
 | 27 => T89n27
 | 28 => T89n28
 | 29 => T89n29
 | 30 => T89n30
 | 31 => T89n31
 | 32 => T89n32
 | 33 => T89n33
 | 34 => T89n34
 | 35 => T89n35
 | 36 => T89n36
 | 37 => T89n37
 | _ => .skip
theorem t89n0 : T89 0 = T89n0 := rfl
theorem t89n1 : T89 1 = T89n1 := rfl
theorem t89n2 : T89 2 = T89n2 := rfl
theorem t89n3 : T89 3 = T89n3 := rfl
theorem t89n4 : T89 4 = T89n4 := rfl
theorem t89n5 : T89 5 = T89n5 := rfl
theorem t89n6 : T89 6 = T89n6 := rfl
theorem t89n7 : T89 7 = T89n7 := rfl
theorem t89n8 : T89 8 = T89n8 := rfl
theorem t89n9 : T89 9 = T89n9 := rfl
theorem t89n10 : T89 10 = T89n10 := rfl
theorem t89n11 : T89 11 = T89n11 := rfl
theorem t89n12 : T89 12 = T89n12 := rfl
theorem t89n13 : T89 13 = T89n13 := rfl
theorem t89n14 : T89 14 = T89n14 := rfl
theorem t89n15 : T89 15 = T89n15 := rfl
theorem t89n16 : T89 16 = T89n16 := rfl
theorem t89n17 : T89 17 = T89n17 := rfl
theorem t89n18 : T89 18 = T89n18 := rfl
theorem t89n19 : T89 19 = T89n19 := rfl
theorem t89n20 : T89 20 = T89n20 := rfl
theorem t89n21 : T89 21 = T89n21 := rfl
theorem t89n22 : T89 22 = T89n22 := rfl
theorem t89n23 : T89 23 = T89n23 := rfl
theorem t89n24 : T89 24 = T89n24 := rfl
theorem t89n25 : T89 25 = T89n25 := rfl
theorem t89n26 : T89 26 = T89n26 := rfl
theorem t89n27 : T89 27 = T89n27 := rfl
theorem t89n28 : T89 28 = T89n28 := rfl
theorem t89n29 : T89 29 = T89n29 := rfl
theorem t89n30 : T89 30 = T89n30 := rfl
theorem t89n31 : T89 31 = T89n31 := rfl
theorem t89n32 : T89 32 = T89n32 := rfl
theorem t89n33 : T89 33 = T89n33 := rfl
theorem t89n34 : T89 34 = T89n34 := rfl
theorem t89n35 : T89 35 = T89n35 := rfl
theorem t89n36 : T89 36 = T89n36 := rfl
theorem t89n37 : T89 37 = T89n37 := rfl
def X89 : XC := .seq (.ops [.mk (some 2) none (.k (.mov (.const (.slice none 0 0))))]) (.ref 37)
abbrev K89 : List Nat := [0, 2, 3, 4, 5, 6, 7, 8, 9, 10, 11, 12, 14, 15, 16, 26, 35, 43, 59, 65, 80, 93, 118, 124, 139]
theorem n89 : Tryz.f89.ntmps = 153 := by kernel_rfl
theorem r89 : resT Tryz.f89.results.toList = some [2] := by kernel_rfl
theorem x89 : cmpF Tryz.prog Tryz.f89 = some (expand T89 39 X89) := by kernel_rfl
def T118n0 : XC := .seq (.ops [.mk (some 4) none (.k (.mov (.const (.slice none 0 0)))), .mk (some 5) none (.k (.mov (.const (.bool true))))]) .ret
def T118n1 : XC := .ops [.mk (some 44) none (.k (.mov (.tmp 9))), .mk (some 45) none (.k (.fld 4 (.tmp 6))), .mk (some 46) none (.k (.load [.int .i64] false (.tmp 45))), .mk (some 47) none (.k (.buildS 3 1 1 [.int .i64 0] [(0, .tmp 46)])), .mk (some 48) none (.k (.app 3 1 8 (.tmp 44) (.tmp 47))), .mk (some 9) none (.k (.mov (.tmp 48)))]
def T118n2 : XC := .ops [.mk (some 59) none (.k (.mov (.tmp 9))), .mk (some 60) none (.k (.mov (.tmp 1))), .mk (some 61) none (.k (.arith .add .i64 (.tmp 60) (.const (.int .i64 1)))), .mk (some 62) none (.k (.buildS 3 1 1 [.int .i64 0] [(0, .tmp 61)])), .mk (some 63) none (.k (.app 3 1 8 (.tmp 59) (.tmp 62))), .mk (some 9) none (.k (.mov (.tmp 63)))]
def T118n3 : XC := .seq (.ops [.mk (some 64) none (.k (.mov (.tmp 9))), .mk (some 65) none (.k (.mov (.tmp 8))), .mk (some 4) none (.k (.mov (.tmp 64))), .mk (some 5) none (.k (.mov (.tmp 65)))]) .ret
def T118n4 : XC := .seq (.seq (.ops [.mk (some 49) none (.k (.fld 0 (.tmp 6))), .mk (some 50) none (.k (.load [.int .i64] false (.tmp 49))), .mk (some 51) none (.k (.cmp .neq .i64 (.tmp 50) (.const (.int .i64 13)))), .mk (some 52) none (.k (.mov (.tmp 51))), .mk (some 53) (some (52, true)) (.k (.mov (.tmp 1))), .mk (some 54) (some (52, true)) (.k (.arith .add .i64 (.tmp 53) (.const (.int .i64 1)))), .mk (some 55) (some (52, true)) (.k (.mov (.tmp 0))), .mk (some 56) (some (52, true)) (.k (.lenS (.tmp 55))), .mk (some 57) (some (52, true)) (.k (.cmp .lss .i64 (.tmp 54) (.tmp 56))), .mk (some 58) none (.k (.pick (.tmp 52) (.tmp 57) (.const (.bool false))))]) (.cond (.tmp 58) (.ref 2) .skip)) (.ref 3)
def T118n5 : XC := .seq (.seq (.ops [.mk (some 31) none (.k (.mov (.tmp 8))), .mk (some 32) none (.k (.mov (.tmp 31))), .mk (some 33) (some (32, true)) (.k (.fld 4 (.tmp 6))), .mk (some 34) (some (32, true)) (.k (.load [.int .i64] false (.tmp 33))), .mk (some 35) (some (32, true)) (.k (.cmp .geq .i64 (.tmp 34) (.const (.int .i64 0)))), .mk (some 36) none (.k (.pick (.tmp 32) (.tmp 35) (.const (.bool false)))), .mk (some 37) none (.k (.mov (.tmp 36))), .mk (some 38) (some (37, true)) (.k (.fld 4 (.tmp 6))), .mk (some 39) (some (37, true)) (.k (.load [.int .i64] false (.tmp 38))), .mk (some 40) (some (37, true)) (.k (.mov (.tmp 0))), .mk (some 41) (some (37, true)) (.k (.lenS (.tmp 40))), .mk (some 42) (some (37, true)) (.k (.cmp .lss .i64 (.tmp 39) (.tmp 41))), .mk (some 43) none (.k (.pick (.tmp 37) (.tmp 42) (.const (.bool false))))]) (.cond (.tmp 43) (.ref 1) .skip)) (.ref 4)
def T118n6 : XC := .seq (.seq (.ops [.mk (some 24) none (.k (.mov (.tmp 7))), .mk (some 25) none (.k (.not (.tmp 24))), .mk (some 26) none (.k (.mov (.tmp 25))), .mk (some 27) (some (26, false)) (.k (.fld 0 (.tmp 6))), .mk (some 28) (some (26, false)) (.k (.load [.int .i64] false (.tmp 27))), .mk (some 29) (some (26, false)) (.k (.cmp .eql .i64 (.tmp 28) (.const (.int .i64 1)))), .mk (some 30) none (.k (.pick (.tmp 26) (.const (.bool true)) (.tmp 29)))]) (.cond (.tmp 30) (.ref 0) .skip)) (.ref 5)
def T118n7 : XC := .seq (.ops [.mk (some 9) none (.k (.mov (.const (.slice none 0 0))))]) (.ref 6)
def T118n8 : XC := .seq (.ops [.mk (some 16) none (.k (.fld 0 (.tmp 6))), .mk (some 17) none (.k (.load [.int .i64] false (.tmp 16))), .mk (some 18) none (.k (.cmp .geq .i64 (.tmp 17) (.const (.int .i64 13)))), .mk (some 19) none (.k (.mov (.tmp 18))), .mk (some 20) (some (19, true)) (.k (.fld 0 (.tmp 6))), .mk (some 21) (some (19, true)) (.k (.load [.int .i64] false (.tmp 20))), .mk (some 22) (some (19, true)) (.k (.cmp .leq .i64 (.tmp 21) (.const (.int .i64 16)))), .mk (some 23) none (.k (.pick (.tmp 19) (.tmp 22) (.const (.bool false)))), .mk (some 8) none (.k (.mov (.tmp 23)))]) (.ref 7)
def T118n9 : XC := .seq (.ops [.mk (some 14) none (.k (.load [.int .i64, .int .i64, .int .i64, .int .i64, .int .i64] true (.tmp 6))), .mk (some 15) none (.call 90 [.tmp 14]), .mk (some 7) none (.k (.mov (.tmp 15)))]) (.ref 8)
def T118n10 : XC := .seq (.ops [.mk (some 10) none (.k (.mov (.tmp 0))), .mk (some 11) none (.k (.mov (.tmp 1))), .mk (some 12) none (.k (.idx 5 (.tmp 10) (.tmp 11))), .mk (some 13) none (.k (.load [.int .i64, .int .i64, .int .i64, .int .i64, .int .i64] true (.tmp 12))), .mk (some 6) none (.k (.alloc 41 [.int .i64 0, .int .i64 0, .int .i64 0, .int .i64 0, .int .i64 0])), .mk none none (.k (.store 5 (.tmp 6) (.tmp 13)))]) (.ref 9)
def T118 : Nat → XC
 | 0 => T118n0
 | 1 => T118n1
 | 2 => T118n2
 | 3 => T118n3
 | 4 => T118n4
 | 5 => T118n5
 | 6 => T118n6
 | 7 => T118n7
 | 8 => T118n8
 | 9 => T118n9
 | 10 => T118n10
 | _ => .skip
theorem t118n0 : T118 0 = T118n0 := rfl
theorem t118n1 : T118 1 = T118n1 := rfl
theorem t118n2 : T118 2 = T118n2 := rfl
theorem t118n3 : T118 3 = T118n3 := rfl
theorem t118n4 : T118 4 = T118n4 := rfl
theorem t118n5 : T118 5 = T118n5 := rfl
theorem t118n6 : T118 6 = T118n6 := rfl
theorem t118n7 : T118 7 = T118n7 := rfl
theorem t118n8 : T118 8 = T118n8 := rfl
theorem t118n9 : T118 9 = T118n9 := rfl
theorem t118n10 : T118 10 = T118n10 := rfl
def X118 : XC := .seq (.ops [.mk (some 4) none (.k (.mov (.const (.slice none 0 0)))), .mk (some 5) none (.k (.mov (.const (.bool false))))]) (.ref 10)
abbrev K118 : List Nat := [0, 1, 4, 5, 6, 7, 8, 9, 30, 43, 58]
theorem n118 : Tryz.f118.ntmps = 66 := by kernel_rfl
theorem r118 : resT Tryz.f118.results.toList = some [4, 5] := by kernel_rfl
theorem x118 : cmpF Tryz.prog Tryz.f118 = some (expand T118 12 X118) := by kernel_rfl
end Go.Proofs.YtlbiogokpadaoaaGreatDoor
