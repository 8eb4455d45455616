/- Printed by program: the small code of functions, and that it is theirs. -/
import Derived.Test.YtlbiogokpadaoaaGreatDoorSxStill
import Derived.Test.YtlbiogokpadaoaaGreatDoorProg
import Derived.KernelRfl
set_option linter.unusedSimpArgs false
set_option linter.unusedVariables false
set_option linter.unnecessarySimpa false
namespace Go.Proofs.YtlbiogokpadaoaaGreatDoor
open Go Go.Sx
set_option maxRecDepth 100000
def T10n0 : XC := .seq (.ops [.mk (some 22) none (.k (.mov (.tmp 3))), .mk (some 2) none (.k (.mov (.tmp 22)))]) .ret
def T10n1 : XC := .seq (.ops [.mk (some 2) none (.k (.mov (.const (.bool false))))]) .ret
def T10n2 : XC := .ops [.mk (some 42) none (.k (.mov (.tmp 6))), .mk (some 43) none (.k (.mov (.tmp 4))), .mk (some 44) none (.k (.mov (.tmp 7))), .mk (some 45) none (.k (.idx 2 (.tmp 43) (.tmp 44))), .mk (some 46) none (.k (.fld 1 (.tmp 45))), .mk (some 47) none (.k (.load [.int .i64] false (.tmp 46))), .mk none none (.k (.mupd (.int .i64) (.tmp 42) (.tmp 47) (.const (.int .i64 1))))]
def T10n3 : XC := .seq (.ops [.mk (some 36) none (.k (.mov (.tmp 4))), .mk (some 37) none (.k (.mov (.tmp 7))), .mk (some 38) none (.k (.idx 2 (.tmp 36) (.tmp 37))), .mk (some 39) none (.k (.fld 0 (.tmp 38))), .mk (some 40) none (.k (.load [.int .i64] false (.tmp 39))), .mk (some 41) none (.k (.cmp .eql .i64 (.tmp 40) (.const (.int .i64 8))))]) (.cond (.tmp 41) (.ref 2) .skip)
def T10n4 : XC := .seq (.blk 1 (.seq (.ops [.mk (some 35) none (.k (.mov (.tmp 33))), .mk (some 7) none (.k (.mov (.tmp 35)))]) (.ref 3))) (.ops [.mk (some 48) none (.k (.arith .add .i64 (.tmp 33) (.const (.int .i64 1)))), .mk (some 33) none (.k (.mov (.tmp 48)))])
def T10n5 : XC := .seq (.cond (.tmp 34) .skip (.exit 0)) (.ref 4)
def T10n6 : XC := .seq (.ops [.mk (some 34) none (.k (.cmp .lss .i64 (.tmp 33) (.tmp 32)))]) (.ref 5)
def T10n7 : XC := .seq (.ops [.mk (some 2) none (.k (.mov (.const (.bool false))))]) .ret
def T10n8 : XC := .ops [.mk (some 127) none (.k (.mov (.tmp 11))), .mk (some 128) none (.k (.not (.tmp 127))), .mk (some 13) none (.k (.mov (.tmp 128)))]
def T10n9 : XC := .ops [.mk (some 131) none (.k (.fld 0 (.tmp 10))), .mk (some 132) none (.k (.load [.int .i64] false (.tmp 131))), .mk (some 133) none (.k (.cmp .eql .i64 (.tmp 132) (.const (.int .i64 18)))), .mk (some 13) none (.k (.mov (.tmp 133)))]
def T10n10 : XC := .ops [.mk (some 136) none (.k (.fld 0 (.tmp 10))), .mk (some 137) none (.k (.load [.int .i64] false (.tmp 136))), .mk (some 138) none (.k (.cmp .eql .i64 (.tmp 137) (.const (.int .i64 17)))), .mk (some 13) none (.k (.mov (.tmp 138)))]
def T10n11 : XC := .ops [.mk (some 141) none (.k (.fld 0 (.tmp 10))), .mk (some 142) none (.k (.load [.int .i64] false (.tmp 141))), .mk (some 143) none (.k (.cmp .eql .i64 (.tmp 142) (.const (.int .i64 1)))), .mk (some 13) none (.k (.mov (.tmp 143)))]
def T10n12 : XC := .ops [.mk (some 146) none (.k (.mov (.tmp 11))), .mk (some 147) none (.k (.mov (.tmp 146))), .mk (some 148) (some (147, true)) (.k (.fld 0 (.tmp 10))), .mk (some 149) (some (147, true)) (.k (.load [.int .i64] false (.tmp 148))), .mk (some 150) (some (147, true)) (.k (.cmp .neq .i64 (.tmp 149) (.const (.int .i64 1)))), .mk (some 151) none (.k (.pick (.tmp 147) (.tmp 150) (.const (.bool false)))), .mk (some 13) none (.k (.mov (.tmp 151)))]
def T10n13 : XC := .ops [.mk (some 154) none (.k (.mov (.tmp 12))), .mk (some 155) none (.k (.mov (.tmp 154))), .mk (some 156) (some (155, true)) (.k (.fld 4 (.tmp 10))), .mk (some 157) (some (155, true)) (.k (.load [.int .i64] false (.tmp 156))), .mk (some 158) (some (155, true)) (.k (.cmp .lss .i64 (.tmp 157) (.const (.int .i64 0)))), .mk (some 159) (some (155, true)) (.k (.mov (.tmp 158))), .mk (some 160) (some (159, false)) (.k (.fld 4 (.tmp 10))), .mk (some 161) (some (159, false)) (.k (.load [.int .i64] false (.tmp 160))), .mk (some 162) (some (159, false)) (.k (.cmp .gtr .i64 (.tmp 161) (.const (.int .i64 1024)))), .mk (some 163) (some (155, true)) (.k (.pick (.tmp 159) (.const (.bool true)) (.tmp 162))), .mk (some 164) none (.k (.pick (.tmp 155) (.tmp 163) (.const (.bool false)))), .mk (some 13) none (.k (.mov (.tmp 164)))]
def T10n14 : XC := .ops [.mk (some 170) none (.k (.fld 1 (.tmp 9))), .mk (some 171) none (.k (.load [.int .i64] false (.tmp 170))), .mk (some 172) none (.k (.cmp .gtr .i64 (.tmp 171) (.const (.int .i64 0)))), .mk (some 13) none (.k (.mov (.tmp 172)))]
def T10n15 : XC := .cond (.tmp 168) (.ref 14) (.ops [.mk (some 13) none (.k (.mov (.const (.bool false))))])
def T10n16 : XC := .seq (.ops [.mk (some 169) none (.k (.cmp .eql .i64 (.tmp 124) (.const (.int .i64 8)))), .mk (some 168) none (.k (.mov (.tmp 169)))]) (.ref 15)
def T10n17 : XC := .cond (.tmp 165) (.ops [.mk (some 167) none (.k (.mov (.tmp 11))), .mk (some 13) none (.k (.mov (.tmp 167)))]) (.ref 16)
def T10n18 : XC := .seq (.ops [.mk (some 166) none (.k (.cmp .eql .i64 (.tmp 124) (.const (.int .i64 7)))), .mk (some 165) none (.k (.mov (.tmp 166)))]) (.ref 17)
def T10n19 : XC := .seq (.ops [.mk (some 153) none (.k (.cmp .eql .i64 (.tmp 124) (.const (.int .i64 6)))), .mk (some 152) none (.k (.mov (.tmp 153)))]) (.cond (.tmp 152) (.ref 13) (.ref 18))
def T10n20 : XC := .seq (.ops [.mk (some 145) none (.k (.cmp .eql .i64 (.tmp 124) (.const (.int .i64 5)))), .mk (some 144) none (.k (.mov (.tmp 145)))]) (.cond (.tmp 144) (.ref 12) (.ref 19))
def T10n21 : XC := .seq (.ops [.mk (some 140) none (.k (.cmp .eql .i64 (.tmp 124) (.const (.int .i64 4)))), .mk (some 139) none (.k (.mov (.tmp 140)))]) (.cond (.tmp 139) (.ref 11) (.ref 20))
def T10n22 : XC := .seq (.ops [.mk (some 135) none (.k (.cmp .eql .i64 (.tmp 124) (.const (.int .i64 3)))), .mk (some 134) none (.k (.mov (.tmp 135)))]) (.cond (.tmp 134) (.ref 10) (.ref 21))
def T10n23 : XC := .seq (.ops [.mk (some 130) none (.k (.cmp .eql .i64 (.tmp 124) (.const (.int .i64 2)))), .mk (some 129) none (.k (.mov (.tmp 130)))]) (.cond (.tmp 129) (.ref 9) (.ref 22))
def T10n24 : XC := .blk 4 (.seq (.ops [.mk (some 126) none (.k (.cmp .eql .i64 (.tmp 124) (.const (.int .i64 1)))), .mk (some 125) none (.k (.mov (.tmp 126)))]) (.cond (.tmp 125) (.ref 8) (.ref 23)))
def T10n25 : XC := .seq (.ops [.mk (some 2) none (.k (.mov (.const (.bool false))))]) .ret
def T10n26 : XC := .seq (.ops [.mk (some 173) none (.k (.mov (.tmp 13))), .mk (some 174) none (.k (.not (.tmp 173))), .mk (some 175) none (.k (.mov (.tmp 174))), .mk (some 176) (some (175, false)) (.k (.fld 0 (.tmp 9))), .mk (some 177) (some (175, false)) (.k (.load [.int .i64] false (.tmp 176))), .mk (some 178) (some (175, false)) (.k (.cmp .neq .i64 (.tmp 177) (.const (.int .i64 8)))), .mk (some 179) (some (175, false)) (.k (.mov (.tmp 178))), .mk (some 180) (some (179, true)) (.k (.mov (.tmp 6))), .mk (some 181) (some (179, true)) (.k (.fld 1 (.tmp 9))), .mk (some 182) (some (179, true)) (.k (.load [.int .i64] false (.tmp 181))), .mk (some 183) (some (179, true)) (.k (.lkup (.int .i64) (.int .i64 0) false (.tmp 180) (.tmp 182))), .mk (some 184) (some (179, true)) (.k (.cmp .gtr .i64 (.tmp 183) (.const (.int .i64 0)))), .mk (some 185) (some (175, false)) (.k (.pick (.tmp 179) (.tmp 184) (.const (.bool false)))), .mk (some 186) none (.k (.pick (.tmp 175) (.const (.bool true)) (.tmp 185)))]) (.cond (.tmp 186) (.ref 25) .skip)
def T10n27 : XC := .seq (.seq (.ops [.mk (some 123) none (.k (.fld 0 (.tmp 9))), .mk (some 124) none (.k (.load [.int .i64] false (.tmp 123)))]) (.ref 24)) (.ref 26)
def T10n28 : XC := .seq (.ops [.mk (some 13) none (.k (.mov (.const (.bool true))))]) (.ref 27)
def T10n29 : XC := .seq (.ops [.mk (some 112) none (.k (.mov (.tmp 11))), .mk (some 113) none (.k (.mov (.tmp 112))), .mk (some 114) (some (113, true)) (.k (.fld 0 (.tmp 10))), .mk (some 115) (some (113, true)) (.k (.load [.int .i64] false (.tmp 114))), .mk (some 116) (some (113, true)) (.k (.cmp .geq .i64 (.tmp 115) (.const (.int .i64 13)))), .mk (some 117) none (.k (.pick (.tmp 113) (.tmp 116) (.const (.bool false)))), .mk (some 118) none (.k (.mov (.tmp 117))), .mk (some 119) (some (118, true)) (.k (.fld 0 (.tmp 10))), .mk (some 120) (some (118, true)) (.k (.load [.int .i64] false (.tmp 119))), .mk (some 121) (some (118, true)) (.k (.cmp .leq .i64 (.tmp 120) (.const (.int .i64 16)))), .mk (some 122) none (.k (.pick (.tmp 118) (.tmp 121) (.const (.bool false)))), .mk (some 12) none (.k (.mov (.tmp 122)))]) (.ref 28)
def T10n30 : XC := .seq (.ops [.mk (some 110) none (.k (.load [.int .i64, .int .i64, .int .i64, .int .i64, .int .i64] true (.tmp 10))), .mk (some 111) none (.call 21 [.tmp 110]), .mk (some 11) none (.k (.mov (.tmp 111)))]) (.ref 29)
def T10n31 : XC := .seq (.ops [.mk (some 105) none (.k (.mov (.tmp 0))), .mk (some 106) none (.k (.fld 1 (.tmp 9))), .mk (some 107) none (.k (.load [.int .i64] false (.tmp 106))), .mk (some 108) none (.k (.idx 5 (.tmp 105) (.tmp 107))), .mk (some 109) none (.k (.load [.int .i64, .int .i64, .int .i64, .int .i64, .int .i64] true (.tmp 108))), .mk (some 10) none (.k (.alloc 41 [.int .i64 0, .int .i64 0, .int .i64 0, .int .i64 0, .int .i64 0])), .mk none none (.k (.store 5 (.tmp 10) (.tmp 109)))]) (.ref 30)
def T10n32 : XC := .seq (.seq (.ops [.mk (some 58) none (.k (.fld 1 (.tmp 9))), .mk (some 59) none (.k (.load [.int .i64] false (.tmp 58))), .mk (some 60) none (.k (.cmp .lss .i64 (.tmp 59) (.const (.int .i64 0)))), .mk (some 61) none (.k (.mov (.tmp 60))), .mk (some 62) (some (61, false)) (.k (.fld 1 (.tmp 9))), .mk (some 63) (some (61, false)) (.k (.load [.int .i64] false (.tmp 62))), .mk (some 64) (some (61, false)) (.k (.mov (.tmp 0))), .mk (some 65) (some (61, false)) (.k (.lenS (.tmp 64))), .mk (some 66) (some (61, false)) (.k (.cmp .geq .i64 (.tmp 63) (.tmp 65))), .mk (some 67) none (.k (.pick (.tmp 61) (.const (.bool true)) (.tmp 66))), .mk (some 68) none (.k (.mov (.tmp 67))), .mk (some 69) (some (68, false)) (.k (.mov (.tmp 8))), .mk (some 70) (some (68, false)) (.k (.cmp .gtr .i64 (.tmp 69) (.const (.int .i64 0)))), .mk (some 71) (some (68, false)) (.k (.mov (.tmp 70))), .mk (some 72) (some (71, true)) (.k (.fld 0 (.tmp 9))), .mk (some 73) (some (71, true)) (.k (.load [.int .i64] false (.tmp 72))), .mk (some 74) (some (71, true)) (.k (.mov (.tmp 4))), .mk (some 75) (some (71, true)) (.k (.mov (.tmp 8))), .mk (some 76) (some (71, true)) (.k (.arith .sub .i64 (.tmp 75) (.const (.int .i64 1)))), .mk (some 77) (some (71, true)) (.k (.idx 2 (.tmp 74) (.tmp 76))), .mk (some 78) (some (71, true)) (.k (.fld 0 (.tmp 77))), .mk (some 79) (some (71, true)) (.k (.load [.int .i64] false (.tmp 78))), .mk (some 80) (some (71, true)) (.k (.cmp .lss .i64 (.tmp 73) (.tmp 79))), .mk (some 81) (some (71, true)) (.k (.mov (.tmp 80))), .mk (some 82) (some (81, false)) (.k (.fld 0 (.tmp 9))), .mk (some 83) (some (81, false)) (.k (.load [.int .i64] false (.tmp 82))), .mk (some 84) (some (81, false)) (.k (.mov (.tmp 4))), .mk (some 85) (some (81, false)) (.k (.mov (.tmp 8))), .mk (some 86) (some (81, false)) (.k (.arith .sub .i64 (.tmp 85) (.const (.int .i64 1)))), .mk (some 87) (some (81, false)) (.k (.idx 2 (.tmp 84) (.tmp 86))), .mk (some 88) (some (81, false)) (.k (.fld 0 (.tmp 87))), .mk (some 89) (some (81, false)) (.k (.load [.int .i64] false (.tmp 88))), .mk (some 90) (some (81, false)) (.k (.cmp .eql .i64 (.tmp 83) (.tmp 89))), .mk (some 91) (some (81, false)) (.k (.mov (.tmp 90))), .mk (some 92) (some (91, true)) (.k (.fld 1 (.tmp 9))), .mk (some 93) (some (91, true)) (.k (.load [.int .i64] false (.tmp 92))), .mk (some 94) (some (91, true)) (.k (.mov (.tmp 4))), .mk (some 95) (some (91, true)) (.k (.mov (.tmp 8))), .mk (some 96) (some (91, true)) (.k (.arith .sub .i64 (.tmp 95) (.const (.int .i64 1)))), .mk (some 97) (some (91, true)) (.k (.idx 2 (.tmp 94) (.tmp 96))), .mk (some 98) (some (91, true)) (.k (.fld 1 (.tmp 97))), .mk (some 99) (some (91, true)) (.k (.load [.int .i64] false (.tmp 98))), .mk (some 100) (some (91, true)) (.k (.cmp .leq .i64 (.tmp 93) (.tmp 99))), .mk (some 101) (some (81, false)) (.k (.pick (.tmp 91) (.tmp 100) (.const (.bool false)))), .mk (some 102) (some (71, true)) (.k (.pick (.tmp 81) (.const (.bool true)) (.tmp 101))), .mk (some 103) (some (68, false)) (.k (.pick (.tmp 71) (.tmp 102) (.const (.bool false)))), .mk (some 104) none (.k (.pick (.tmp 68) (.const (.bool true)) (.tmp 103)))]) (.cond (.tmp 104) (.ref 7) .skip)) (.ref 31)
def T10n33 : XC := .seq (.ops [.mk (some 54) none (.k (.mov (.tmp 4))), .mk (some 55) none (.k (.mov (.tmp 8))), .mk (some 56) none (.k (.idx 2 (.tmp 54) (.tmp 55))), .mk (some 57) none (.k (.load [.int .i64, .int .i64] true (.tmp 56))), .mk (some 9) none (.k (.alloc 46 [.int .i64 0, .int .i64 0])), .mk none none (.k (.store 2 (.tmp 9) (.tmp 57)))]) (.ref 32)
def T10n34 : XC := .seq (.blk 3 (.seq (.ops [.mk (some 53) none (.k (.mov (.tmp 51))), .mk (some 8) none (.k (.mov (.tmp 53)))]) (.ref 33))) (.ops [.mk (some 187) none (.k (.arith .add .i64 (.tmp 51) (.const (.int .i64 1)))), .mk (some 51) none (.k (.mov (.tmp 187)))])
def T10n35 : XC := .seq (.cond (.tmp 52) .skip (.exit 2)) (.ref 34)
def T10n36 : XC := .seq (.ops [.mk (some 52) none (.k (.cmp .lss .i64 (.tmp 51) (.tmp 50)))]) (.ref 35)
def T10n37 : XC := .seq (.ops [.mk (some 188) none (.k (.mov (.tmp 3))), .mk (some 2) none (.k (.mov (.tmp 188)))]) .ret
def T10n38 : XC := .seq (.seq (.ops [.mk (some 49) none (.k (.mov (.tmp 4))), .mk (some 50) none (.k (.lenS (.tmp 49))), .mk (some 51) none (.k (.mov (.const (.int .i64 0))))]) (.blk 2 (.loop (.ref 36)))) (.ref 37)
def T10n39 : XC := .seq (.seq (.ops [.mk (some 31) none (.k (.mov (.tmp 4))), .mk (some 32) none (.k (.lenS (.tmp 31))), .mk (some 33) none (.k (.mov (.const (.int .i64 0))))]) (.blk 0 (.loop (.ref 6)))) (.ref 38)
def T10n40 : XC := .seq (.ops [.mk (some 30) none (.k .mkmap), .mk (some 6) none (.k (.mov (.tmp 30)))]) (.ref 39)
def T10n41 : XC := .seq (.seq (.ops [.mk (some 28) none (.k (.mov (.tmp 5))), .mk (some 29) none (.k (.cmp .neq .i64 (.tmp 28) (.const (.int .i64 0))))]) (.cond (.tmp 29) (.ref 1) .skip)) (.ref 40)
def T10n42 : XC := .seq (.ops [.mk (some 24) none (.k (.mov (.tmp 0))), .mk (some 25) none (.call 22 [.tmp 24]), .mk (some 23) none (.k (.mov (.tmp 25))), .mk (some 26) none (.k (.ext (.tmp 23) 0)), .mk (some 27) none (.k (.ext (.tmp 23) 1)), .mk (some 4) none (.k (.mov (.tmp 26))), .mk (some 5) none (.k (.mov (.tmp 27)))]) (.ref 41)
def T10n43 : XC := .seq (.seq (.ops [.mk (some 15) none (.k (.mov (.tmp 0))), .mk (some 16) none (.k (.lenS (.tmp 15))), .mk (some 17) none (.k (.cmp .gtr .i64 (.tmp 16) (.const (.int .i64 300)))), .mk (some 18) none (.k (.mov (.tmp 17))), .mk (some 19) (some (18, false)) (.k (.mov (.tmp 3))), .mk (some 20) (some (18, false)) (.k (.not (.tmp 19))), .mk (some 21) none (.k (.pick (.tmp 18) (.const (.bool true)) (.tmp 20)))]) (.cond (.tmp 21) (.ref 0) .skip)) (.ref 42)
def T10n44 : XC := .seq (.ops [.mk (some 14) none (.call 20 []), .mk (some 3) none (.k (.mov (.tmp 14)))]) (.ref 43)
def T10 : Nat → XC
 | 0 => T10n0
 | 1 => T10n1
 | 2 => T10n2
 | 3 => T10n3
 | 4 => T10n4
 | 5 => T10n5
 | 6 => T10n6
 | 7 => T10n7
 | 8 => T10n8
 | 9 => T10n9
 | 10 => T10n10
 | 11 => T10n11
 | 12 => T10n12
 | 13 => T10n13
 | 14 => T10n14
 | 15 => T10n15
 | 16 => T10n16
 | 17 => T10n17
 | 18 => T10n18
 | 19 => T10n19
 | 20 => T10n20
 | 21 => T10n21
 | 22 => T10n22
 | 23 => T10n23
 | 24 => T10n24
 | 25 => T10n25
 | 26 => T10n26
 | 27 => T10n27
 | 28 => T10n28
 | 29 => T10n29
 | 30 => T10n30
 | 31 => T10n31
 | 32 => T10n32
 | 33 => T10n33
 | 34 => T10n34
 | 35 => T10n35
 | 36 => T10n36
 | 37 => T10n37
 | 38 => T10n38
 | 39 => T10n39
 | 40 => T10n40
 | 41 => T10n41
 | 42 => T10n42
 | 43 => T10n43
 | 44 => T10n44
 | _ => .skip
theorem t10n0 : T10 0 = T10n0 := rfl
theorem t10n1 : T10 1 = T10n1 := rfl
theorem t10n2 : T10 2 = T10n2 := rfl
theorem t10n3 : T10 3 = T10n3 := rfl
theorem t10n4 : T10 4 = T10n4 := rfl
theorem t10n5 : T10 5 = T10n5 := rfl
theorem t10n6 : T10 6 = T10n6 := rfl
theorem t10n7 : T10 7 = T10n7 := rfl
theorem t10n8 : T10 8 = T10n8 := rfl
theorem t10n9 : T10 9 = T10n9 := rfl
theorem t10n10 : T10 10 = T10n10 := rfl
theorem t10n11 : T10 11 = T10n11 := rfl
theorem t10n12 : T10 12 = T10n12 := rfl
theorem t10n13 : T10 13 = T10n13 := rfl
theorem t10n14 : T10 14 = T10n14 := rfl
theorem t10n15 : T10 15 = T10n15 := rfl
theorem t10n16 : T10 16 = T10n16 := rfl
theorem t10n17 : T10 17 = T10n17 := rfl
theorem t10n18 : T10 18 = T10n18 := rfl
theorem t10n19 : T10 19 = T10n19 := rfl
theorem t10n20 : T10 20 = T10n20 := rfl
theorem t10n21 : T10 21 = T10n21 := rfl
theorem t10n22 : T10 22 = T10n22 := rfl
theorem t10n23 : T10 23 = T10n23 := rfl
theorem t10n24 : T10 24 = T10n24 := rfl
theorem t10n25 : T10 25 = T10n25 := rfl
theorem t10n26 : T10 26 = T10n26 := rfl
theorem t10n27 : T10 27 = T10n27 := rfl
theorem t10n28 : T10 28 = T10n28 := rfl
theorem t10n29 : T10 29 = T10n29 := rfl
theorem t10n30 : T10 30 = T10n30 := rfl
theorem t10n31 : T10 31 = T10n31 := rfl
theorem t10n32 : T10 32 = T10n32 := rfl
theorem t10n33 : T10 33 = T10n33 := rfl
theorem t10n34 : T10 34 = T10n34 := rfl
theorem t10n35 : T10 35 = T10n35 := rfl
theorem t10n36 : T10 36 = T10n36 := rfl
theorem t10n37 : T10 37 = T10n37 := rfl
theorem t10n38 : T10 38 = T10n38 := rfl
theorem t10n39 : T10 39 = T10n39 := rfl
theorem t10n40 : T10 40 = T10n40 := rfl
theorem t10n41 : T10 41 = T10n41 := rfl
theorem t10n42 : T10 42 = T10n42 := rfl
theorem t10n43 : T10 43 = T10n43 := rfl
theorem t10n44 : T10 44 = T10n44 := rfl
def X10 : XC := .seq (.ops [.mk (some 2) none (.k (.mov (.const (.bool false))))]) (.ref 44)
abbrev K10 : List Nat := [0, 2, 3, 4, 5, 6, 7, 8, 9, 10, 11, 12, 13, 21, 29, 32, 33, 34, 41, 50, 51, 52, 104, 124, 125, 129, 134, 139, 144, 152, 165, 168, 186]
theorem n10 : Tryz.f10.ntmps = 189 := by kernel_rfl
theorem r10 : resT Tryz.f10.results.toList = some [2] := by kernel_rfl
theorem x10 : cmpF Tryz.prog Tryz.f10 = some (expand T10 46 X10) := by kernel_rfl
end Go.Proofs.YtlbiogokpadaoaaGreatDoor
