/- Printed by program: the small code of functions, and that it is theirs. -/
import Derived.Test.YtlbiogokpadaoaaGreatDoorSxStill
import Derived.Test.YtlbiogokpadaoaaGreatDoorProg
import Derived.KernelRfl
set_option linter.unusedSimpArgs false
set_option linter.unusedVariables false
set_option linter.unnecessarySimpa false
namespace Go.Proofs.YtlbiogokpadaoaaGreatDoor
open Go Go.Sx
set_option maxRecDepth 100000
def T95n0 : XC := .seq (.ops [.mk (some 2) none (.k (.mov (.const (.slice none 0 0)))), .mk (some 3) none (.k (.mov (.const (.int .i64 2))))]) .ret
def T95n1 : XC := .ops [.mk (some 86) none (.k (.mov (.tmp 11))), .mk (some 87) none (.k (.arith .add .i64 (.tmp 86) (.const (.int .i64 1)))), .mk (some 11) none (.k (.mov (.tmp 87)))]
def T95n2 : XC := .seq (.blk 5 (.ops [.mk (some 88) none (.k (.mov (.tmp 4))), .mk (some 89) none (.k (.mov (.tmp 6))), .mk (some 90) none (.k (.mov (.tmp 4))), .mk (some 91) none (.k (.mov (.tmp 6))), .mk (some 92) none (.k (.idx 9 (.tmp 90) (.tmp 91))), .mk (some 93) none (.k (.idxA 9 1 (.tmp 92) (.const (.int .i64 5)))), .mk (some 94) none (.k (.load [.bool] false (.tmp 93))), .mk (some 95) none (.k (.mov (.tmp 94))), .mk (some 96) (some (95, false)) (.k (.mov (.tmp 9))), .mk (some 97) (some (95, false)) (.k (.mov (.tmp 11))), .mk (some 98) (some (95, false)) (.k (.idx 2 (.tmp 96) (.tmp 97))), .mk (some 99) (some (95, false)) (.k (.idxA 2 1 (.tmp 98) (.const (.int .i64 1)))), .mk (some 100) (some (95, false)) (.k (.load [.int .i64] false (.tmp 99))), .mk (some 101) (some (95, false)) (.k (.cmp .eql .i64 (.tmp 100) (.const (.int .i64 1)))), .mk (some 102) (some (95, false)) (.k (.mov (.tmp 101))), .mk (some 103) (some (102, true)) (.k (.mov (.tmp 9))), .mk (some 104) (some (102, true)) (.k (.mov (.tmp 11))), .mk (some 105) (some (102, true)) (.k (.idx 2 (.tmp 103) (.tmp 104))), .mk (some 106) (some (102, true)) (.k (.idxA 2 1 (.tmp 105) (.const (.int .i64 0)))), .mk (some 107) (some (102, true)) (.k (.load [.int .i64] false (.tmp 106))), .mk (some 108) (some (102, true)) (.k (.mov (.tmp 0))), .mk (some 109) (some (102, true)) (.k (.lenS (.tmp 108))), .mk (some 110) (some (102, true)) (.k (.cmp .geq .i64 (.tmp 107) (.tmp 109))), .mk (some 111) (some (95, false)) (.k (.pick (.tmp 102) (.tmp 110) (.const (.bool false)))), .mk (some 112) none (.k (.pick (.tmp 95) (.const (.bool true)) (.tmp 111))), .mk (some 113) none (.k (.idx 9 (.tmp 88) (.tmp 89))), .mk (some 114) none (.k (.idxA 9 1 (.tmp 113) (.const (.int .i64 5)))), .mk none none (.k (.store 1 (.tmp 114) (.tmp 112)))])) (.ref 1)
def T95n3 : XC := .seq (.seq (.ops [.mk (some 82) none (.k (.mov (.tmp 11))), .mk (some 83) none (.k (.mov (.tmp 9))), .mk (some 84) none (.k (.lenS (.tmp 83))), .mk (some 85) none (.k (.cmp .lss .i64 (.tmp 82) (.tmp 84)))]) (.cond (.tmp 85) .skip (.exit 4))) (.ref 2)
def T95n4 : XC := .ops [.mk (some 131) none (.k (.mov (.tmp 4))), .mk (some 132) none (.k (.mov (.tmp 6))), .mk (some 133) none (.k (.mov (.tmp 4))), .mk (some 134) none (.k (.mov (.tmp 6))), .mk (some 135) none (.k (.idx 9 (.tmp 133) (.tmp 134))), .mk (some 136) none (.k (.idxA 9 1 (.tmp 135) (.const (.int .i64 6)))), .mk (some 137) none (.k (.load [.bool] false (.tmp 136))), .mk (some 138) none (.k (.mov (.tmp 137))), .mk (some 139) (some (138, false)) (.k (.mov (.tmp 13))), .mk (some 140) (some (138, false)) (.k (.mov (.tmp 139))), .mk (some 141) (some (140, true)) (.k (.fld 4 (.tmp 12))), .mk (some 142) (some (140, true)) (.k (.load [.int .i64] false (.tmp 141))), .mk (some 143) (some (140, true)) (.k (.cmp .lss .i64 (.tmp 142) (.const (.int .i64 0)))), .mk (some 144) (some (140, true)) (.k (.mov (.tmp 143))), .mk (some 145) (some (144, false)) (.k (.fld 4 (.tmp 12))), .mk (some 146) (some (144, false)) (.k (.load [.int .i64] false (.tmp 145))), .mk (some 147) (some (144, false)) (.k (.cmp .gtr .i64 (.tmp 146) (.const (.int .i64 1024)))), .mk (some 148) (some (140, true)) (.k (.pick (.tmp 144) (.const (.bool true)) (.tmp 147))), .mk (some 149) (some (138, false)) (.k (.pick (.tmp 140) (.tmp 148) (.const (.bool false)))), .mk (some 150) none (.k (.pick (.tmp 138) (.const (.bool true)) (.tmp 149))), .mk (some 151) none (.k (.idx 9 (.tmp 131) (.tmp 132))), .mk (some 152) none (.k (.idxA 9 1 (.tmp 151) (.const (.int .i64 6)))), .mk none none (.k (.store 1 (.tmp 152) (.tmp 150)))]
def T95n5 : XC := .seq (.ops [.mk (some 119) none (.k (.mov (.tmp 8))), .mk (some 120) none (.k (.cmp .neq .i64 (.tmp 119) (.const (.int .i64 1)))), .mk (some 121) none (.k (.mov (.tmp 120))), .mk (some 122) (some (121, true)) (.k (.fld 0 (.tmp 12))), .mk (some 123) (some (121, true)) (.k (.load [.int .i64] false (.tmp 122))), .mk (some 124) (some (121, true)) (.k (.cmp .geq .i64 (.tmp 123) (.const (.int .i64 13)))), .mk (some 125) none (.k (.pick (.tmp 121) (.tmp 124) (.const (.bool false)))), .mk (some 126) none (.k (.mov (.tmp 125))), .mk (some 127) (some (126, true)) (.k (.fld 0 (.tmp 12))), .mk (some 128) (some (126, true)) (.k (.load [.int .i64] false (.tmp 127))), .mk (some 129) (some (126, true)) (.k (.cmp .leq .i64 (.tmp 128) (.const (.int .i64 16)))), .mk (some 130) none (.k (.pick (.tmp 126) (.tmp 129) (.const (.bool false)))), .mk (some 13) none (.k (.mov (.tmp 130)))]) (.ref 4)
def T95n6 : XC := .seq (.ops [.mk (some 115) none (.k (.mov (.tmp 0))), .mk (some 116) none (.k (.mov (.tmp 6))), .mk (some 117) none (.k (.idx 5 (.tmp 115) (.tmp 116))), .mk (some 118) none (.k (.load [.int .i64, .int .i64, .int .i64, .int .i64, .int .i64] true (.tmp 117))), .mk (some 12) none (.k (.alloc 41 [.int .i64 0, .int .i64 0, .int .i64 0, .int .i64 0, .int .i64 0])), .mk none none (.k (.store 5 (.tmp 12) (.tmp 118)))]) (.ref 5)
def T95n7 : XC := .seq (.seq (.ops [.mk (some 11) none (.k (.mov (.const (.int .i64 0))))]) (.blk 4 (.loop (.ref 3)))) (.ref 6)
def T95n8 : XC := .seq (.ops [.mk (some 76) none (.k (.mov (.tmp 0))), .mk (some 77) none (.k (.mov (.tmp 6))), .mk (some 78) none (.k (.mov (.tmp 7))), .mk (some 79) none (.call 124 [.tmp 76, .tmp 77, .tmp 78]), .mk (some 75) none (.k (.mov (.tmp 79))), .mk (some 80) none (.k (.ext (.tmp 75) 0)), .mk (some 81) none (.k (.ext (.tmp 75) 1)), .mk (some 9) none (.k (.mov (.tmp 80))), .mk (some 10) none (.k (.mov (.tmp 81)))]) (.ref 7)
def T95n9 : XC := .seq (.ops [.mk (some 70) none (.k (.mov (.tmp 4))), .mk (some 71) none (.k (.mov (.tmp 6))), .mk (some 72) none (.k (.mov (.tmp 8))), .mk (some 73) none (.k (.idx 9 (.tmp 70) (.tmp 71))), .mk (some 74) none (.k (.idxA 9 1 (.tmp 73) (.tmp 72))), .mk none none (.k (.store 1 (.tmp 74) (.const (.bool true))))]) (.ref 8)
def T95n10 : XC := .seq (.ops [.mk (some 66) none (.k (.mov (.tmp 0))), .mk (some 67) none (.k (.mov (.tmp 6))), .mk (some 68) none (.k (.mov (.tmp 7))), .mk (some 69) none (.call 123 [.tmp 66, .tmp 67, .tmp 68]), .mk (some 8) none (.k (.mov (.tmp 69)))]) (.ref 9)
def T95n11 : XC := .ops [.mk (some 57) none (.k (.mov (.tmp 7))), .mk (some 58) none (.k (.arith .add .i64 (.tmp 57) (.const (.int .i64 1)))), .mk (some 7) none (.k (.mov (.tmp 58)))]
def T95n12 : XC := .seq (.blk 3 (.seq (.seq (.ops [.mk (some 59) none (.k (.mov (.tmp 5))), .mk (some 60) none (.k (.mov (.tmp 6))), .mk (some 61) none (.k (.mov (.tmp 7))), .mk (some 62) none (.k (.idx 2 (.tmp 59) (.tmp 60))), .mk (some 63) none (.k (.idxA 2 1 (.tmp 62) (.tmp 61))), .mk (some 64) none (.k (.load [.bool] false (.tmp 63))), .mk (some 65) none (.k (.not (.tmp 64)))]) (.cond (.tmp 65) (.exit 3) .skip)) (.ref 10))) (.ref 11)
def T95n13 : XC := .seq (.seq (.ops [.mk (some 55) none (.k (.mov (.tmp 7))), .mk (some 56) none (.k (.cmp .lss .i64 (.tmp 55) (.const (.int .i64 2))))]) (.cond (.tmp 56) .skip (.exit 2))) (.ref 12)
def T95n14 : XC := .seq (.ops [.mk (some 7) none (.k (.mov (.const (.int .i64 0))))]) (.blk 2 (.loop (.ref 13)))
def T95n15 : XC := .ops [.mk (some 35) none (.k (.mov (.tmp 6))), .mk (some 36) none (.k (.arith .add .i64 (.tmp 35) (.const (.int .i64 1)))), .mk (some 6) none (.k (.mov (.tmp 36)))]
def T95n16 : XC := .seq (.blk 1 (.seq (.ops [.mk (some 37) none (.k (.mov (.tmp 4))), .mk (some 38) none (.k (.mov (.tmp 6))), .mk (some 39) none (.k (.mov (.tmp 5))), .mk (some 40) none (.k (.mov (.tmp 6))), .mk (some 41) none (.k (.idx 2 (.tmp 39) (.tmp 40))), .mk (some 42) none (.k (.idxA 2 1 (.tmp 41) (.const (.int .i64 0)))), .mk (some 43) none (.k (.load [.bool] false (.tmp 42))), .mk (some 44) none (.k (.not (.tmp 43))), .mk (some 45) none (.k (.mov (.tmp 44))), .mk (some 46) (some (45, true)) (.k (.mov (.tmp 5))), .mk (some 47) (some (45, true)) (.k (.mov (.tmp 6))), .mk (some 48) (some (45, true)) (.k (.idx 2 (.tmp 46) (.tmp 47))), .mk (some 49) (some (45, true)) (.k (.idxA 2 1 (.tmp 48) (.const (.int .i64 1)))), .mk (some 50) (some (45, true)) (.k (.load [.bool] false (.tmp 49))), .mk (some 51) (some (45, true)) (.k (.not (.tmp 50))), .mk (some 52) none (.k (.pick (.tmp 45) (.tmp 51) (.const (.bool false)))), .mk (some 53) none (.k (.idx 9 (.tmp 37) (.tmp 38))), .mk (some 54) none (.k (.idxA 9 1 (.tmp 53) (.const (.int .i64 8)))), .mk none none (.k (.store 1 (.tmp 54) (.tmp 52)))]) (.ref 14))) (.ref 15)
def T95n17 : XC := .seq (.seq (.ops [.mk (some 31) none (.k (.mov (.tmp 6))), .mk (some 32) none (.k (.mov (.tmp 0))), .mk (some 33) none (.k (.lenS (.tmp 32))), .mk (some 34) none (.k (.cmp .lss .i64 (.tmp 31) (.tmp 33)))]) (.cond (.tmp 34) .skip (.exit 0))) (.ref 16)
def T95n18 : XC := .ops [.mk (some 180) none (.k (.mov (.tmp 19))), .mk (some 181) none (.k (.arith .add .i64 (.tmp 180) (.const (.int .i64 1)))), .mk (some 19) none (.k (.mov (.tmp 181)))]
def T95n19 : XC := .seq (.blk 11 (.ops [.mk (some 182) none (.k (.mov (.tmp 4))), .mk (some 183) none (.k (.mov (.tmp 16))), .mk (some 184) none (.k (.mov (.tmp 4))), .mk (some 185) none (.k (.mov (.tmp 16))), .mk (some 186) none (.k (.idx 9 (.tmp 184) (.tmp 185))), .mk (some 187) none (.k (.idxA 9 1 (.tmp 186) (.const (.int .i64 7)))), .mk (some 188) none (.k (.load [.bool] false (.tmp 187))), .mk (some 189) none (.k (.mov (.tmp 188))), .mk (some 190) (some (189, false)) (.k (.mov (.tmp 17))), .mk (some 191) (some (189, false)) (.k (.mov (.tmp 190))), .mk (some 192) (some (191, true)) (.k (.mov (.tmp 18))), .mk (some 193) (some (191, true)) (.k (.mov (.tmp 19))), .mk (some 194) (some (191, true)) (.k (.idx 1 (.tmp 192) (.tmp 193))), .mk (some 195) (some (191, true)) (.k (.load [.int .i64] false (.tmp 194))), .mk (some 196) (some (191, true)) (.k (.mov (.tmp 14))), .mk (some 197) (some (191, true)) (.k (.cmp .eql .i64 (.tmp 195) (.tmp 196))), .mk (some 198) (some (189, false)) (.k (.pick (.tmp 191) (.tmp 197) (.const (.bool false)))), .mk (some 199) (some (189, false)) (.k (.mov (.tmp 198))), .mk (some 200) (some (199, true)) (.k (.mov (.tmp 15))), .mk (some 201) (some (199, true)) (.k (.mov (.tmp 16))), .mk (some 202) (some (199, true)) (.k (.idx 2 (.tmp 200) (.tmp 201))), .mk (some 203) (some (199, true)) (.k (.idxA 2 1 (.tmp 202) (.const (.int .i64 0)))), .mk (some 204) (some (199, true)) (.k (.load [.bool] false (.tmp 203))), .mk (some 205) (some (199, true)) (.k (.mov (.tmp 204))), .mk (some 206) (some (205, false)) (.k (.mov (.tmp 15))), .mk (some 207) (some (205, false)) (.k (.mov (.tmp 16))), .mk (some 208) (some (205, false)) (.k (.idx 2 (.tmp 206) (.tmp 207))), .mk (some 209) (some (205, false)) (.k (.idxA 2 1 (.tmp 208) (.const (.int .i64 1)))), .mk (some 210) (some (205, false)) (.k (.load [.bool] false (.tmp 209))), .mk (some 211) (some (199, true)) (.k (.pick (.tmp 205) (.const (.bool true)) (.tmp 210))), .mk (some 212) (some (189, false)) (.k (.pick (.tmp 199) (.tmp 211) (.const (.bool false)))), .mk (some 213) none (.k (.pick (.tmp 189) (.const (.bool true)) (.tmp 212))), .mk (some 214) none (.k (.idx 9 (.tmp 182) (.tmp 183))), .mk (some 215) none (.k (.idxA 9 1 (.tmp 214) (.const (.int .i64 7)))), .mk none none (.k (.store 1 (.tmp 215) (.tmp 213)))])) (.ref 18)
def T95n20 : XC := .seq (.seq (.ops [.mk (some 176) none (.k (.mov (.tmp 19))), .mk (some 177) none (.k (.mov (.tmp 18))), .mk (some 178) none (.k (.lenS (.tmp 177))), .mk (some 179) none (.k (.cmp .lss .i64 (.tmp 176) (.tmp 178)))]) (.cond (.tmp 179) .skip (.exit 10))) (.ref 19)
def T95n21 : XC := .seq (.ops [.mk (some 19) none (.k (.mov (.const (.int .i64 0))))]) (.blk 10 (.loop (.ref 20)))
def T95n22 : XC := .seq (.ops [.mk (some 171) none (.k (.mov (.tmp 0))), .mk (some 172) none (.k (.mov (.tmp 16))), .mk (some 173) none (.k (.idx 5 (.tmp 171) (.tmp 172))), .mk (some 174) none (.k (.load [.int .i64, .int .i64, .int .i64, .int .i64, .int .i64] true (.tmp 173))), .mk (some 175) none (.call 91 [.tmp 174]), .mk (some 18) none (.k (.mov (.tmp 175)))]) (.ref 21)
def T95n23 : XC := .ops [.mk (some 164) none (.k (.mov (.tmp 16))), .mk (some 165) none (.k (.arith .add .i64 (.tmp 164) (.const (.int .i64 1)))), .mk (some 16) none (.k (.mov (.tmp 165)))]
def T95n24 : XC := .seq (.blk 9 (.seq (.ops [.mk (some 166) none (.k (.mov (.tmp 0))), .mk (some 167) none (.k (.mov (.tmp 16))), .mk (some 168) none (.k (.idx 5 (.tmp 166) (.tmp 167))), .mk (some 169) none (.k (.load [.int .i64, .int .i64, .int .i64, .int .i64, .int .i64] true (.tmp 168))), .mk (some 170) none (.call 90 [.tmp 169]), .mk (some 17) none (.k (.mov (.tmp 170)))]) (.ref 22))) (.ref 23)
def T95n25 : XC := .seq (.seq (.ops [.mk (some 160) none (.k (.mov (.tmp 16))), .mk (some 161) none (.k (.mov (.tmp 0))), .mk (some 162) none (.k (.lenS (.tmp 161))), .mk (some 163) none (.k (.cmp .lss .i64 (.tmp 160) (.tmp 162)))]) (.cond (.tmp 163) .skip (.exit 8))) (.ref 24)
def T95n26 : XC := .seq (.ops [.mk (some 16) none (.k (.mov (.const (.int .i64 0))))]) (.blk 8 (.loop (.ref 25)))
def T95n27 : XC := .ops [.mk (some 155) none (.k (.mov (.tmp 14))), .mk (some 156) none (.k (.arith .add .i64 (.tmp 155) (.const (.int .i64 1)))), .mk (some 14) none (.k (.mov (.tmp 156)))]
def T95n28 : XC := .seq (.blk 7 (.seq (.ops [.mk (some 157) none (.k (.mov (.tmp 0))), .mk (some 158) none (.k (.mov (.tmp 14))), .mk (some 159) none (.call 122 [.tmp 157, .tmp 158]), .mk (some 15) none (.k (.mov (.tmp 159)))]) (.ref 26))) (.ref 27)
def T95n29 : XC := .seq (.seq (.ops [.mk (some 153) none (.k (.mov (.tmp 14))), .mk (some 154) none (.k (.cmp .lss .i64 (.tmp 153) (.const (.int .i64 8))))]) (.cond (.tmp 154) .skip (.exit 6))) (.ref 28)
def T95n30 : XC := .ops [.mk (some 232) none (.k (.mov (.tmp 20))), .mk (some 233) none (.k (.mov (.tmp 21))), .mk (some 234) none (.k (.mov (.tmp 22))), .mk (some 235) none (.k (.build [.int .i64 0, .int .i64 0] [(0, 1, .tmp 233), (1, 1, .tmp 234)])), .mk (some 236) none (.k (.buildS 46 1 2 [.int .i64 0, .int .i64 0] [(0, .tmp 235)])), .mk (some 237) none (.k (.app 46 2 16 (.tmp 232) (.tmp 236))), .mk (some 20) none (.k (.mov (.tmp 237)))]
def T95n31 : XC := .ops [.mk (some 224) none (.k (.mov (.tmp 22))), .mk (some 225) none (.k (.arith .add .i64 (.tmp 224) (.const (.int .i64 1)))), .mk (some 22) none (.k (.mov (.tmp 225)))]
def T95n32 : XC := .seq (.blk 15 (.seq (.ops [.mk (some 226) none (.k (.mov (.tmp 4))), .mk (some 227) none (.k (.mov (.tmp 22))), .mk (some 228) none (.k (.mov (.tmp 21))), .mk (some 229) none (.k (.idx 9 (.tmp 226) (.tmp 227))), .mk (some 230) none (.k (.idxA 9 1 (.tmp 229) (.tmp 228))), .mk (some 231) none (.k (.load [.bool] false (.tmp 230)))]) (.cond (.tmp 231) (.ref 30) .skip))) (.ref 31)
def T95n33 : XC := .seq (.seq (.ops [.mk (some 220) none (.k (.mov (.tmp 22))), .mk (some 221) none (.k (.mov (.tmp 0))), .mk (some 222) none (.k (.lenS (.tmp 221))), .mk (some 223) none (.k (.cmp .lss .i64 (.tmp 220) (.tmp 222)))]) (.cond (.tmp 223) .skip (.exit 14))) (.ref 32)
def T95n34 : XC := .ops [.mk (some 218) none (.k (.mov (.tmp 21))), .mk (some 219) none (.k (.arith .add .i64 (.tmp 218) (.const (.int .i64 1)))), .mk (some 21) none (.k (.mov (.tmp 219)))]
def T95n35 : XC := .seq (.blk 13 (.seq (.ops [.mk (some 22) none (.k (.mov (.const (.int .i64 0))))]) (.blk 14 (.loop (.ref 33))))) (.ref 34)
def T95n36 : XC := .seq (.seq (.ops [.mk (some 216) none (.k (.mov (.tmp 21))), .mk (some 217) none (.k (.cmp .leq .i64 (.tmp 216) (.const (.int .i64 8))))]) (.cond (.tmp 217) .skip (.exit 12))) (.ref 35)
def T95n37 : XC := .seq (.ops [.mk (some 238) none (.k (.mov (.tmp 20))), .mk (some 2) none (.k (.mov (.tmp 238))), .mk (some 3) none (.k (.mov (.const (.int .i64 0))))]) .ret
def T95n38 : XC := .seq (.seq (.ops [.mk (some 21) none (.k (.mov (.const (.int .i64 1))))]) (.blk 12 (.loop (.ref 36)))) (.ref 37)
def T95n39 : XC := .seq (.ops [.mk (some 20) none (.k (.mov (.const (.slice none 0 0))))]) (.ref 38)
def T95n40 : XC := .seq (.seq (.ops [.mk (some 14) none (.k (.mov (.const (.int .i64 0))))]) (.blk 6 (.loop (.ref 29)))) (.ref 39)
def T95n41 : XC := .seq (.seq (.ops [.mk (some 6) none (.k (.mov (.const (.int .i64 0))))]) (.blk 0 (.loop (.ref 17)))) (.ref 40)
def T95n42 : XC := .seq (.ops [.mk (some 29) none (.k (.mov (.tmp 0))), .mk (some 30) none (.call 122 [.tmp 29, .const (.int .i64 (-1))]), .mk (some 5) none (.k (.mov (.tmp 30)))]) (.ref 41)
def T95n43 : XC := .seq (.ops [.mk (some 26) none (.k (.mov (.tmp 0))), .mk (some 27) none (.k (.lenS (.tmp 26))), .mk (some 28) none (.k (.mkslc 180 9 9 [.bool false, .bool false, .bool false, .bool false, .bool false, .bool false, .bool false, .bool false, .bool false] (.tmp 27) (.tmp 27))), .mk (some 4) none (.k (.mov (.tmp 28)))]) (.ref 42)
def T95n44 : XC := .seq (.seq (.ops [.mk (some 23) none (.k (.mov (.tmp 0))), .mk (some 24) none (.k (.lenS (.tmp 23))), .mk (some 25) none (.k (.cmp .gtr .i64 (.tmp 24) (.const (.int .i64 1024))))]) (.cond (.tmp 25) (.ref 0) .skip)) (.ref 43)
def T95 : Nat → XC
 | 0 => T95n0
 | 1 => T95n1
 | 2 => T95n2
 | 3 => T95n3
 | 4 => T95n4
 | 5 => T95n5
 | 6 => T95n6
 | 7 => T95n7
 | 8 => T95n8
 | 9 => T95n9
 | 10 => T95n10
 | 11 => T95n11
 | 12 => T95n12
 | 13 => T95n13
 | 14 => T95n14
 | 15 => T95n15
 | 16 => T95n16
 | 17 => T95n17
 | 18 => T95n18
 | 19 => T95n19
 | 20 => T95n20
 | 21 => T95n21
 | 22 => T95n22
 | 23 => T95n23
 | 24 => T95n24
 | 25 => T95n25
 | 26 => T95n26
 | 27 => T95n27
 | 28 => T95n28
 | 29 => T95n29
 | 30 => T95n30
 | 31 => T95n31
 | 32 => T95n32
 | 33 => T95n33
 | 34 => T95n34
 | 35 => T95n35
 | 36 => T95n36
 | 37 => T95n37
 | 38 => T95n38
 | 39 => T95n39
 | 40 => T95n40
 | 41 => T95n41
 | 42 => T95n42
 | 43 => T95n43
 | 44 => T95n44
 | _ => .skip
theorem t95n0 : T95 0 = T95n0 := rfl
theorem t95n1 : T95 1 = T95n1 := rfl
theorem t95n2 : T95 2 = T95n2 := rfl
theorem t95n3 : T95 3 = T95n3 := rfl
theorem t95n4 : T95 4 = T95n4 := rfl
theorem t95n5 : T95 5 = T95n5 := rfl
theorem t95n6 : T95 6 = T95n6 := rfl
theorem t95n7 : T95 7 = T95n7 := rfl
theorem t95n8 : T95 8 = T95n8 := rfl
theorem t95n9 : T95 9 = T95n9 := rfl
theorem t95n10 : T95 10 = T95n10 := rfl
theorem t95n11 : T95 11 = T95n11 := rfl
theorem t95n12 : T95 12 = T95n12 := rfl
theorem t95n13 : T95 13 = T95n13 := rfl
theorem t95n14 : T95 14 = T95n14 := rfl
theorem t95n15 : T95 15 = T95n15 := rfl
theorem t95n16 : T95 16 = T95n16 := rfl
theorem t95n17 : T95 17 = T95n17 := rfl
theorem t95n18 : T95 18 = T95n18 := rfl
theorem t95n19 : T95 19 = T95n19 := rfl
theorem t95n20 : T95 20 = T95n20 := rfl
theorem t95n21 : T95 21 = T95n21 := rfl
theorem t95n22 : T95 22 = T95n22 := rfl
theorem t95n23 : T95 23 = T95n23 := rfl
theorem t95n24 : T95 24 = T95n24 := rfl
theorem t95n25 : T95 25 = T95n25 := rfl
theorem t95n26 : T95 26 = T95n26 := rfl
theorem t95n27 : T95 27 = T95n27 := rfl
theorem t95n28 : T95 28 = T95n28 := rfl
theorem t95n29 : T95 29 = T95n29 := rfl
theorem t95n30 : T95 30 = T95n30 := rfl
theorem t95n31 : T95 31 = T95n31 := rfl
theorem t95n32 : T95 32 = T95n32 := rfl
theorem t95n33 : T95 33 = T95n33 := rfl
theorem t95n34 : T95 34 = T95n34 := rfl
theorem t95n35 : T95 35 = T95n35 := rfl
theorem t95n36 : T95 36 = T95n36 := rfl
theorem t95n37 : T95 37 = T95n37 := rfl
theorem t95n38 : T95 38 = T95n38 := rfl
theorem t95n39 : T95 39 = T95n39 := rfl
theorem t95n40 : T95 40 = T95n40 := rfl
theorem t95n41 : T95 41 = T95n41 := rfl
theorem t95n42 : T95 42 = T95n42 := rfl
theorem t95n43 : T95 43 = T95n43 := rfl
theorem t95n44 : T95 44 = T95n44 := rfl
def X95 : XC := .seq (.ops [.mk (some 2) none (.k (.mov (.const (.slice none 0 0)))), .mk (some 3) none (.k (.mov (.const (.int .i64 0))))]) (.ref 44)
abbrev K95 : List Nat := [0, 2, 3, 4, 5, 6, 7, 8, 9, 11, 12, 13, 14, 15, 16, 17, 18, 19, 20, 21, 22, 25, 34, 56, 65, 85, 154, 163, 179, 217, 223, 231]
theorem n95 : Tryz.f95.ntmps = 239 := by kernel_rfl
theorem r95 : resT Tryz.f95.results.toList = some [2, 3] := by kernel_rfl
theorem x95 : cmpF Tryz.prog Tryz.f95 = some (expand T95 46 X95) := by kernel_rfl
def T122n0 : XC := .ops [.mk (some 85) none (.k (.mov (.tmp 5))), .mk (some 86) none (.k (.mov (.tmp 10))), .mk (some 87) none (.k (.mov (.tmp 12))), .mk (some 88) none (.k (.idx 2 (.tmp 86) (.tmp 87))), .mk (some 89) none (.k (.idxA 2 1 (.tmp 88) (.const (.int .i64 0)))), .mk (some 90) none (.k (.load [.int .i64] false (.tmp 89))), .mk (some 91) none (.k (.mov (.tmp 10))), .mk (some 92) none (.k (.mov (.tmp 12))), .mk (some 93) none (.k (.idx 2 (.tmp 91) (.tmp 92))), .mk (some 94) none (.k (.idxA 2 1 (.tmp 93) (.const (.int .i64 1)))), .mk (some 95) none (.k (.load [.int .i64] false (.tmp 94))), .mk (some 96) none (.k (.idx 2 (.tmp 85) (.tmp 90))), .mk (some 97) none (.k (.idxA 2 1 (.tmp 96) (.tmp 95))), .mk none none (.k (.store 1 (.tmp 97) (.const (.bool true))))]
def T122n1 : XC := .ops [.mk (some 65) none (.k (.mov (.tmp 12))), .mk (some 66) none (.k (.arith .add .i64 (.tmp 65) (.const (.int .i64 1)))), .mk (some 12) none (.k (.mov (.tmp 66)))]
def T122n2 : XC := .seq (.blk 7 (.seq (.ops [.mk (some 67) none (.k (.mov (.tmp 7))), .mk (some 68) none (.k (.mov (.tmp 67))), .mk (some 69) (some (68, false)) (.k (.mov (.tmp 5))), .mk (some 70) (some (68, false)) (.k (.mov (.tmp 10))), .mk (some 71) (some (68, false)) (.k (.mov (.tmp 12))), .mk (some 72) (some (68, false)) (.k (.idx 2 (.tmp 70) (.tmp 71))), .mk (some 73) (some (68, false)) (.k (.idxA 2 1 (.tmp 72) (.const (.int .i64 0)))), .mk (some 74) (some (68, false)) (.k (.load [.int .i64] false (.tmp 73))), .mk (some 75) (some (68, false)) (.k (.mov (.tmp 10))), .mk (some 76) (some (68, false)) (.k (.mov (.tmp 12))), .mk (some 77) (some (68, false)) (.k (.idx 2 (.tmp 75) (.tmp 76))), .mk (some 78) (some (68, false)) (.k (.idxA 2 1 (.tmp 77) (.const (.int .i64 1)))), .mk (some 79) (some (68, false)) (.k (.load [.int .i64] false (.tmp 78))), .mk (some 80) (some (68, false)) (.k (.idx 2 (.tmp 69) (.tmp 74))), .mk (some 81) (some (68, false)) (.k (.idxA 2 1 (.tmp 80) (.tmp 79))), .mk (some 82) (some (68, false)) (.k (.load [.bool] false (.tmp 81))), .mk (some 83) (some (68, false)) (.k (.not (.tmp 82))), .mk (some 84) none (.k (.pick (.tmp 68) (.const (.bool true)) (.tmp 83))), .mk (some 7) none (.k (.mov (.tmp 84)))]) (.ref 0))) (.ref 1)
def T122n3 : XC := .seq (.seq (.ops [.mk (some 61) none (.k (.mov (.tmp 12))), .mk (some 62) none (.k (.mov (.tmp 10))), .mk (some 63) none (.k (.lenS (.tmp 62))), .mk (some 64) none (.k (.cmp .lss .i64 (.tmp 61) (.tmp 63)))]) (.cond (.tmp 64) .skip (.exit 6))) (.ref 2)
def T122n4 : XC := .seq (.ops [.mk (some 12) none (.k (.mov (.const (.int .i64 0))))]) (.blk 6 (.loop (.ref 3)))
def T122n5 : XC := .seq (.ops [.mk (some 55) none (.k (.mov (.tmp 0))), .mk (some 56) none (.k (.mov (.tmp 8))), .mk (some 57) none (.k (.mov (.tmp 9))), .mk (some 58) none (.call 124 [.tmp 55, .tmp 56, .tmp 57]), .mk (some 54) none (.k (.mov (.tmp 58))), .mk (some 59) none (.k (.ext (.tmp 54) 0)), .mk (some 60) none (.k (.ext (.tmp 54) 1)), .mk (some 10) none (.k (.mov (.tmp 59))), .mk (some 11) none (.k (.mov (.tmp 60)))]) (.ref 4)
def T122n6 : XC := .ops [.mk (some 32) none (.k (.mov (.tmp 9))), .mk (some 33) none (.k (.arith .add .i64 (.tmp 32) (.const (.int .i64 1)))), .mk (some 9) none (.k (.mov (.tmp 33)))]
def T122n7 : XC := .seq (.blk 5 (.seq (.seq (.ops [.mk (some 34) none (.k (.mov (.tmp 5))), .mk (some 35) none (.k (.mov (.tmp 8))), .mk (some 36) none (.k (.mov (.tmp 9))), .mk (some 37) none (.k (.idx 2 (.tmp 34) (.tmp 35))), .mk (some 38) none (.k (.idxA 2 1 (.tmp 37) (.tmp 36))), .mk (some 39) none (.k (.load [.bool] false (.tmp 38))), .mk (some 40) none (.k (.not (.tmp 39))), .mk (some 41) none (.k (.mov (.tmp 40))), .mk (some 42) (some (41, false)) (.k (.mov (.tmp 1))), .mk (some 43) (some (41, false)) (.k (.cmp .geq .i64 (.tmp 42) (.const (.int .i64 0)))), .mk (some 44) (some (41, false)) (.k (.mov (.tmp 43))), .mk (some 45) (some (44, true)) (.k (.mov (.tmp 0))), .mk (some 46) (some (44, true)) (.k (.mov (.tmp 8))), .mk (some 47) (some (44, true)) (.k (.idx 5 (.tmp 45) (.tmp 46))), .mk (some 48) (some (44, true)) (.k (.load [.int .i64, .int .i64, .int .i64, .int .i64, .int .i64] true (.tmp 47))), .mk (some 49) (some (44, true)) (.call 146 [.tmp 48]), .mk (some 50) (some (44, true)) (.k (.mov (.tmp 1))), .mk (some 51) (some (44, true)) (.k (.cmp .eql .i64 (.tmp 49) (.tmp 50))), .mk (some 52) (some (41, false)) (.k (.pick (.tmp 44) (.tmp 51) (.const (.bool false)))), .mk (some 53) none (.k (.pick (.tmp 41) (.const (.bool true)) (.tmp 52)))]) (.cond (.tmp 53) (.exit 5) .skip)) (.ref 5))) (.ref 6)
def T122n8 : XC := .seq (.seq (.ops [.mk (some 30) none (.k (.mov (.tmp 9))), .mk (some 31) none (.k (.cmp .lss .i64 (.tmp 30) (.const (.int .i64 2))))]) (.cond (.tmp 31) .skip (.exit 4))) (.ref 7)
def T122n9 : XC := .ops [.mk (some 28) none (.k (.mov (.tmp 8))), .mk (some 29) none (.k (.arith .add .i64 (.tmp 28) (.const (.int .i64 1)))), .mk (some 8) none (.k (.mov (.tmp 29)))]
def T122n10 : XC := .seq (.blk 3 (.seq (.ops [.mk (some 9) none (.k (.mov (.const (.int .i64 0))))]) (.blk 4 (.loop (.ref 8))))) (.ref 9)
def T122n11 : XC := .seq (.seq (.ops [.mk (some 24) none (.k (.mov (.tmp 8))), .mk (some 25) none (.k (.mov (.tmp 0))), .mk (some 26) none (.k (.lenS (.tmp 25))), .mk (some 27) none (.k (.cmp .lss .i64 (.tmp 24) (.tmp 26)))]) (.cond (.tmp 27) .skip (.exit 2))) (.ref 10)
def T122n12 : XC := .seq (.ops [.mk (some 98) none (.k (.mov (.tmp 7))), .mk (some 99) none (.k (.not (.tmp 98)))]) (.cond (.tmp 99) (.exit 0) .skip)
def T122n13 : XC := .seq (.seq (.ops [.mk (some 8) none (.k (.mov (.const (.int .i64 0))))]) (.blk 2 (.loop (.ref 11)))) (.ref 12)
def T122n14 : XC := .ops [.mk (some 22) none (.k (.mov (.tmp 6))), .mk (some 23) none (.k (.arith .add .i64 (.tmp 22) (.const (.int .i64 1)))), .mk (some 6) none (.k (.mov (.tmp 23)))]
def T122n15 : XC := .seq (.blk 1 (.seq (.ops [.mk (some 7) none (.k (.mov (.const (.bool false))))]) (.ref 13))) (.ref 14)
def T122n16 : XC := .seq (.seq (.ops [.mk (some 17) none (.k (.mov (.tmp 6))), .mk (some 18) none (.k (.mov (.tmp 0))), .mk (some 19) none (.k (.lenS (.tmp 18))), .mk (some 20) none (.k (.arith .mul .i64 (.const (.int .i64 2)) (.tmp 19))), .mk (some 21) none (.k (.cmp .leq .i64 (.tmp 17) (.tmp 20)))]) (.cond (.tmp 21) .skip (.exit 0))) (.ref 15)
def T122n17 : XC := .seq (.ops [.mk (some 100) none (.k (.mov (.tmp 5))), .mk (some 4) none (.k (.mov (.tmp 100)))]) .ret
def T122n18 : XC := .seq (.seq (.ops [.mk (some 6) none (.k (.mov (.const (.int .i64 0))))]) (.blk 0 (.loop (.ref 16)))) (.ref 17)
def T122n19 : XC := .seq (.ops [.mk (some 14) none (.k (.mov (.tmp 5))), .mk (some 15) none (.k (.idx 2 (.tmp 14) (.const (.int .i64 0)))), .mk (some 16) none (.k (.idxA 2 1 (.tmp 15) (.const (.int .i64 0)))), .mk none none (.k (.store 1 (.tmp 16) (.const (.bool true))))]) (.ref 18)
def T122n20 : XC := .seq (.ops [.mk (some 13) none (.k (.mkslc 179 2 2 [.bool false, .bool false] (.const (.int .i64 1025)) (.const (.int .i64 1025)))), .mk (some 5) none (.k (.mov (.tmp 13)))]) (.ref 19)
def T122 : Nat → XC
 | 0 => T122n0
 | 1 => T122n1
 | 2 => T122n2
 | 3 => T122n3
 | 4 => T122n4
 | 5 => T122n5
 | 6 => T122n6
 | 7 => T122n7
 | 8 => T122n8
 | 9 => T122n9
 | 10 => T122n10
 | 11 => T122n11
 | 12 => T122n12
 | 13 => T122n13
 | 14 => T122n14
 | 15 => T122n15
 | 16 => T122n16
 | 17 => T122n17
 | 18 => T122n18
 | 19 => T122n19
 | 20 => T122n20
 | _ => .skip
theorem t122n0 : T122 0 = T122n0 := rfl
theorem t122n1 : T122 1 = T122n1 := rfl
theorem t122n2 : T122 2 = T122n2 := rfl
theorem t122n3 : T122 3 = T122n3 := rfl
theorem t122n4 : T122 4 = T122n4 := rfl
theorem t122n5 : T122 5 = T122n5 := rfl
theorem t122n6 : T122 6 = T122n6 := rfl
theorem t122n7 : T122 7 = T122n7 := rfl
theorem t122n8 : T122 8 = T122n8 := rfl
theorem t122n9 : T122 9 = T122n9 := rfl
theorem t122n10 : T122 10 = T122n10 := rfl
theorem t122n11 : T122 11 = T122n11 := rfl
theorem t122n12 : T122 12 = T122n12 := rfl
theorem t122n13 : T122 13 = T122n13 := rfl
theorem t122n14 : T122 14 = T122n14 := rfl
theorem t122n15 : T122 15 = T122n15 := rfl
theorem t122n16 : T122 16 = T122n16 := rfl
theorem t122n17 : T122 17 = T122n17 := rfl
theorem t122n18 : T122 18 = T122n18 := rfl
theorem t122n19 : T122 19 = T122n19 := rfl
theorem t122n20 : T122 20 = T122n20 := rfl
def X122 : XC := .seq (.ops [.mk (some 4) none (.k (.mov (.const (.slice none 0 0))))]) (.ref 20)
abbrev K122 : List Nat := [0, 1, 4, 5, 6, 7, 8, 9, 10, 12, 21, 27, 31, 53, 64, 99]
theorem n122 : Tryz.f122.ntmps = 101 := by kernel_rfl
theorem r122 : resT Tryz.f122.results.toList = some [4] := by kernel_rfl
theorem x122 : cmpF Tryz.prog Tryz.f122 = some (expand T122 22 X122) := by kernel_rfl
def T123n0 : XC := .seq (.ops [.mk (some 6) none (.k (.mov (.const (.int .i64 1))))]) .ret
def T123n1 : XC := .seq (.ops [.mk (some 6) none (.k (.mov (.const (.int .i64 2))))]) .ret
def T123n2 : XC := .seq (.ops [.mk (some 6) none (.k (.mov (.const (.int .i64 3))))]) .ret
def T123n3 : XC := .seq (.ops [.mk (some 6) none (.k (.mov (.const (.int .i64 4))))]) .ret
def T123n4 : XC := .seq (.ops [.mk (some 35) none (.k (.fld 0 (.tmp 7))), .mk (some 36) none (.k (.load [.int .i64] false (.tmp 35))), .mk (some 37) none (.k (.cmp .eql .i64 (.tmp 36) (.const (.int .i64 1)))), .mk (some 38) none (.k (.mov (.tmp 37))), .mk (some 39) (some (38, true)) (.k (.mov (.tmp 2))), .mk (some 40) (some (38, true)) (.k (.cmp .eql .i64 (.tmp 39) (.const (.int .i64 1)))), .mk (some 41) none (.k (.pick (.tmp 38) (.tmp 40) (.const (.bool false)))), .mk (some 34) none (.k (.mov (.tmp 41)))]) (.cond (.tmp 34) (.ref 3) .skip)
def T123n5 : XC := .seq (.ops [.mk (some 27) none (.k (.fld 0 (.tmp 7))), .mk (some 28) none (.k (.load [.int .i64] false (.tmp 27))), .mk (some 29) none (.k (.cmp .eql .i64 (.tmp 28) (.const (.int .i64 17)))), .mk (some 30) none (.k (.mov (.tmp 29))), .mk (some 31) (some (30, true)) (.k (.mov (.tmp 2))), .mk (some 32) (some (30, true)) (.k (.cmp .eql .i64 (.tmp 31) (.const (.int .i64 1)))), .mk (some 33) none (.k (.pick (.tmp 30) (.tmp 32) (.const (.bool false)))), .mk (some 26) none (.k (.mov (.tmp 33)))]) (.cond (.tmp 26) (.ref 2) (.ref 4))
def T123n6 : XC := .seq (.ops [.mk (some 19) none (.k (.fld 0 (.tmp 7))), .mk (some 20) none (.k (.load [.int .i64] false (.tmp 19))), .mk (some 21) none (.k (.cmp .eql .i64 (.tmp 20) (.const (.int .i64 18)))), .mk (some 22) none (.k (.mov (.tmp 21))), .mk (some 23) (some (22, true)) (.k (.mov (.tmp 2))), .mk (some 24) (some (22, true)) (.k (.cmp .eql .i64 (.tmp 23) (.const (.int .i64 0)))), .mk (some 25) none (.k (.pick (.tmp 22) (.tmp 24) (.const (.bool false)))), .mk (some 18) none (.k (.mov (.tmp 25)))]) (.cond (.tmp 18) (.ref 1) (.ref 5))
def T123n7 : XC := .seq (.ops [.mk (some 6) none (.k (.mov (.const (.int .i64 0))))]) .ret
def T123n8 : XC := .seq (.blk 0 (.seq (.ops [.mk (some 16) none (.k (.mov (.tmp 8))), .mk (some 17) none (.k (.not (.tmp 16))), .mk (some 15) none (.k (.mov (.tmp 17)))]) (.cond (.tmp 15) (.ref 0) (.ref 6)))) (.ref 7)
def T123n9 : XC := .seq (.ops [.mk (some 13) none (.k (.load [.int .i64, .int .i64, .int .i64, .int .i64, .int .i64] true (.tmp 7))), .mk (some 14) none (.call 90 [.tmp 13]), .mk (some 8) none (.k (.mov (.tmp 14)))]) (.ref 8)
def T123n10 : XC := .seq (.ops [.mk (some 9) none (.k (.mov (.tmp 0))), .mk (some 10) none (.k (.mov (.tmp 1))), .mk (some 11) none (.k (.idx 5 (.tmp 9) (.tmp 10))), .mk (some 12) none (.k (.load [.int .i64, .int .i64, .int .i64, .int .i64, .int .i64] true (.tmp 11))), .mk (some 7) none (.k (.alloc 41 [.int .i64 0, .int .i64 0, .int .i64 0, .int .i64 0, .int .i64 0])), .mk none none (.k (.store 5 (.tmp 7) (.tmp 12)))]) (.ref 9)
def T123 : Nat → XC
 | 0 => T123n0
 | 1 => T123n1
 | 2 => T123n2
 | 3 => T123n3
 | 4 => T123n4
 | 5 => T123n5
 | 6 => T123n6
 | 7 => T123n7
 | 8 => T123n8
 | 9 => T123n9
 | 10 => T123n10
 | _ => .skip
theorem t123n0 : T123 0 = T123n0 := rfl
theorem t123n1 : T123 1 = T123n1 := rfl
theorem t123n2 : T123 2 = T123n2 := rfl
theorem t123n3 : T123 3 = T123n3 := rfl
theorem t123n4 : T123 4 = T123n4 := rfl
theorem t123n5 : T123 5 = T123n5 := rfl
theorem t123n6 : T123 6 = T123n6 := rfl
theorem t123n7 : T123 7 = T123n7 := rfl
theorem t123n8 : T123 8 = T123n8 := rfl
theorem t123n9 : T123 9 = T123n9 := rfl
theorem t123n10 : T123 10 = T123n10 := rfl
def X123 : XC := .seq (.ops [.mk (some 6) none (.k (.mov (.const (.int .i64 0))))]) (.ref 10)
abbrev K123 : List Nat := [0, 1, 2, 6, 7, 8, 15, 18, 26, 34]
theorem n123 : Tryz.f123.ntmps = 42 := by kernel_rfl
theorem r123 : resT Tryz.f123.results.toList = some [6] := by kernel_rfl
theorem x123 : cmpF Tryz.prog Tryz.f123 = some (expand T123 12 X123) := by kernel_rfl
def T124n0 : XC := .seq (.ops [.mk (some 6) none (.k (.mov (.const (.slice none 0 0)))), .mk (some 7) none (.k (.mov (.const (.bool true))))]) .ret
def T124n1 : XC := .ops [.mk (some 75) none (.k (.mov (.tmp 11))), .mk (some 76) none (.k (.fld 4 (.tmp 8))), .mk (some 77) none (.k (.load [.int .i64] false (.tmp 76))), .mk (some 78) none (.k (.mov (.tmp 2))), .mk (some 79) none (.k (.build [.int .i64 0, .int .i64 0] [(0, 1, .tmp 77), (1, 1, .tmp 78)])), .mk (some 80) none (.k (.buildS 185 1 2 [.int .i64 0, .int .i64 0] [(0, .tmp 79)])), .mk (some 81) none (.k (.app 185 2 16 (.tmp 75) (.tmp 80))), .mk (some 11) none (.k (.mov (.tmp 81)))]
def T124n2 : XC := .seq (.ops [.mk (some 85) none (.k (.mov (.tmp 11))), .mk (some 6) none (.k (.mov (.tmp 85))), .mk (some 7) none (.k (.mov (.const (.bool true))))]) .ret
def T124n3 : XC := .seq (.ops [.mk (some 82) none (.k (.fld 0 (.tmp 8))), .mk (some 83) none (.k (.load [.int .i64] false (.tmp 82))), .mk (some 84) none (.k (.cmp .eql .i64 (.tmp 83) (.const (.int .i64 13))))]) (.cond (.tmp 84) (.ref 2) .skip)
def T124n4 : XC := .seq (.seq (.ops [.mk (some 67) none (.k (.fld 4 (.tmp 8))), .mk (some 68) none (.k (.load [.int .i64] false (.tmp 67))), .mk (some 69) none (.k (.cmp .geq .i64 (.tmp 68) (.const (.int .i64 0)))), .mk (some 70) none (.k (.mov (.tmp 69))), .mk (some 71) (some (70, true)) (.k (.fld 4 (.tmp 8))), .mk (some 72) (some (70, true)) (.k (.load [.int .i64] false (.tmp 71))), .mk (some 73) (some (70, true)) (.k (.cmp .leq .i64 (.tmp 72) (.const (.int .i64 1024)))), .mk (some 74) none (.k (.pick (.tmp 70) (.tmp 73) (.const (.bool false))))]) (.cond (.tmp 74) (.ref 1) .skip)) (.ref 3)
def T124n5 : XC := .seq (.ops [.mk (some 59) none (.k (.fld 0 (.tmp 8))), .mk (some 60) none (.k (.load [.int .i64] false (.tmp 59))), .mk (some 61) none (.k (.cmp .geq .i64 (.tmp 60) (.const (.int .i64 13)))), .mk (some 62) none (.k (.mov (.tmp 61))), .mk (some 63) (some (62, true)) (.k (.fld 0 (.tmp 8))), .mk (some 64) (some (62, true)) (.k (.load [.int .i64] false (.tmp 63))), .mk (some 65) (some (62, true)) (.k (.cmp .leq .i64 (.tmp 64) (.const (.int .i64 16)))), .mk (some 66) none (.k (.pick (.tmp 62) (.tmp 65) (.const (.bool false)))), .mk (some 58) none (.k (.mov (.tmp 66)))]) (.cond (.tmp 58) (.ref 4) .skip)
def T124n6 : XC := .cond (.tmp 53) (.ops [.mk (some 57) none (.k (.idxA 2 1 (.tmp 10) (.const (.int .i64 1)))), .mk none none (.k (.store 1 (.tmp 57) (.const (.int .i64 0))))]) (.ref 5)
def T124n7 : XC := .seq (.ops [.mk (some 54) none (.k (.fld 0 (.tmp 8))), .mk (some 55) none (.k (.load [.int .i64] false (.tmp 54))), .mk (some 56) none (.k (.cmp .eql .i64 (.tmp 55) (.const (.int .i64 18)))), .mk (some 53) none (.k (.mov (.tmp 56)))]) (.ref 6)
def T124n8 : XC := .cond (.tmp 48) (.ops [.mk (some 52) none (.k (.idxA 2 1 (.tmp 10) (.const (.int .i64 1)))), .mk none none (.k (.store 1 (.tmp 52) (.const (.int .i64 1))))]) (.ref 7)
def T124n9 : XC := .seq (.ops [.mk (some 49) none (.k (.fld 0 (.tmp 8))), .mk (some 50) none (.k (.load [.int .i64] false (.tmp 49))), .mk (some 51) none (.k (.cmp .eql .i64 (.tmp 50) (.const (.int .i64 17)))), .mk (some 48) none (.k (.mov (.tmp 51)))]) (.ref 8)
def T124n10 : XC := .seq (.ops [.mk (some 86) none (.k (.mov (.tmp 11))), .mk (some 87) none (.k (.load [.int .i64, .int .i64] true (.tmp 10))), .mk (some 88) none (.k (.buildS 185 1 2 [.int .i64 0, .int .i64 0] [(0, .tmp 87)])), .mk (some 89) none (.k (.app 185 2 16 (.tmp 86) (.tmp 88))), .mk (some 6) none (.k (.mov (.tmp 89))), .mk (some 7) none (.k (.mov (.const (.bool true))))]) .ret
def T124n11 : XC := .seq (.blk 0 (.seq (.ops [.mk (some 23) none (.k (.mov (.tmp 9))), .mk (some 24) none (.k (.not (.tmp 23))), .mk (some 25) none (.k (.mov (.tmp 24))), .mk (some 26) (some (25, false)) (.k (.fld 0 (.tmp 8))), .mk (some 27) (some (25, false)) (.k (.load [.int .i64] false (.tmp 26))), .mk (some 28) (some (25, false)) (.k (.cmp .eql .i64 (.tmp 27) (.const (.int .i64 1)))), .mk (some 29) none (.k (.pick (.tmp 25) (.const (.bool true)) (.tmp 28))), .mk (some 30) none (.k (.mov (.tmp 29))), .mk (some 31) (some (30, false)) (.k (.fld 0 (.tmp 8))), .mk (some 32) (some (30, false)) (.k (.load [.int .i64] false (.tmp 31))), .mk (some 33) (some (30, false)) (.k (.cmp .eql .i64 (.tmp 32) (.const (.int .i64 17)))), .mk (some 34) (some (30, false)) (.k (.mov (.tmp 33))), .mk (some 35) (some (34, true)) (.k (.mov (.tmp 2))), .mk (some 36) (some (34, true)) (.k (.cmp .eql .i64 (.tmp 35) (.const (.int .i64 1)))), .mk (some 37) (some (30, false)) (.k (.pick (.tmp 34) (.tmp 36) (.const (.bool false)))), .mk (some 38) none (.k (.pick (.tmp 30) (.const (.bool true)) (.tmp 37))), .mk (some 39) none (.k (.mov (.tmp 38))), .mk (some 40) (some (39, false)) (.k (.fld 0 (.tmp 8))), .mk (some 41) (some (39, false)) (.k (.load [.int .i64] false (.tmp 40))), .mk (some 42) (some (39, false)) (.k (.cmp .eql .i64 (.tmp 41) (.const (.int .i64 18)))), .mk (some 43) (some (39, false)) (.k (.mov (.tmp 42))), .mk (some 44) (some (43, true)) (.k (.mov (.tmp 2))), .mk (some 45) (some (43, true)) (.k (.cmp .eql .i64 (.tmp 44) (.const (.int .i64 0)))), .mk (some 46) (some (39, false)) (.k (.pick (.tmp 43) (.tmp 45) (.const (.bool false)))), .mk (some 47) none (.k (.pick (.tmp 39) (.const (.bool true)) (.tmp 46))), .mk (some 22) none (.k (.mov (.tmp 47)))]) (.cond (.tmp 22) (.ref 0) (.ref 9)))) (.ref 10)
def T124n12 : XC := .seq (.ops [.mk (some 11) none (.k (.mov (.const (.slice none 0 0))))]) (.ref 11)
def T124n13 : XC := .seq (.ops [.mk (some 18) none (.k (.mov (.tmp 1))), .mk (some 19) none (.k (.arith .add .i64 (.tmp 18) (.const (.int .i64 1)))), .mk (some 20) none (.k (.mov (.tmp 2))), .mk (some 21) none (.k (.build [.int .i64 0, .int .i64 0] [(0, 1, .tmp 19), (1, 1, .tmp 20)])), .mk (some 10) none (.k (.alloc 185 [.int .i64 0, .int .i64 0])), .mk none none (.k (.store 2 (.tmp 10) (.tmp 21)))]) (.ref 12)
def T124n14 : XC := .seq (.ops [.mk (some 16) none (.k (.load [.int .i64, .int .i64, .int .i64, .int .i64, .int .i64] true (.tmp 8))), .mk (some 17) none (.call 90 [.tmp 16]), .mk (some 9) none (.k (.mov (.tmp 17)))]) (.ref 13)
def T124n15 : XC := .seq (.ops [.mk (some 12) none (.k (.mov (.tmp 0))), .mk (some 13) none (.k (.mov (.tmp 1))), .mk (some 14) none (.k (.idx 5 (.tmp 12) (.tmp 13))), .mk (some 15) none (.k (.load [.int .i64, .int .i64, .int .i64, .int .i64, .int .i64] true (.tmp 14))), .mk (some 8) none (.k (.alloc 41 [.int .i64 0, .int .i64 0, .int .i64 0, .int .i64 0, .int .i64 0])), .mk none none (.k (.store 5 (.tmp 8) (.tmp 15)))]) (.ref 14)
def T124 : Nat → XC
 | 0 => T124n0
 | 1 => T124n1
 | 2 => T124n2
 | 3 => T124n3
 | 4 => T124n4
 | 5 => T124n5
 | 6 => T124n6
 | 7 => T124n7
 | 8 => T124n8
 | 9 => T124n9
 | 10 => T124n10
 | 11 => T124n11
 | 12 => T124n12
 | 13 => T124n13
 | 14 => T124n14
 | 15 => T124n15
 | _ => .skip
theorem t124n0 : T124 0 = T124n0 := rfl
theorem t124n1 : T124 1 = T124n1 := rfl
theorem t124n2 : T124 2 = T124n2 := rfl
theorem t124n3 : T124 3 = T124n3 := rfl
theorem t124n4 : T124 4 = T124n4 := rfl
theorem t124n5 : T124 5 = T124n5 := rfl
theorem t124n6 : T124 6 = T124n6 := rfl
theorem t124n7 : T124 7 = T124n7 := rfl
theorem t124n8 : T124 8 = T124n8 := rfl
theorem t124n9 : T124 9 = T124n9 := rfl
theorem t124n10 : T124 10 = T124n10 := rfl
theorem t124n11 : T124 11 = T124n11 := rfl
theorem t124n12 : T124 12 = T124n12 := rfl
theorem t124n13 : T124 13 = T124n13 := rfl
theorem t124n14 : T124 14 = T124n14 := rfl
theorem t124n15 : T124 15 = T124n15 := rfl
def X124 : XC := .seq (.ops [.mk (some 6) none (.k (.mov (.const (.slice none 0 0)))), .mk (some 7) none (.k (.mov (.const (.bool false))))]) (.ref 15)
abbrev K124 : List Nat := [0, 1, 2, 6, 7, 8, 9, 10, 11, 22, 48, 53, 58, 74, 84]
theorem n124 : Tryz.f124.ntmps = 90 := by kernel_rfl
theorem r124 : resT Tryz.f124.results.toList = some [6, 7] := by kernel_rfl
theorem x124 : cmpF Tryz.prog Tryz.f124 = some (expand T124 17 X124) := by kernel_rfl
def T146n0 : XC := .seq (.ops [.mk (some 11) none (.k (.fld 1 (.tmp 1))), .mk (some 12) none (.k (.load [.int .i64] false (.tmp 11))), .mk (some 2) none (.k (.mov (.tmp 12)))]) .ret
def T146n1 : XC := .seq (.ops [.mk (some 2) none (.k (.mov (.const (.int .i64 (-1)))))]) .ret
def T146n2 : XC := .seq (.seq (.ops [.mk (some 3) none (.k (.fld 0 (.tmp 1))), .mk (some 4) none (.k (.load [.int .i64] false (.tmp 3))), .mk (some 5) none (.k (.cmp .geq .i64 (.tmp 4) (.const (.int .i64 2)))), .mk (some 6) none (.k (.mov (.tmp 5))), .mk (some 7) (some (6, true)) (.k (.fld 0 (.tmp 1))), .mk (some 8) (some (6, true)) (.k (.load [.int .i64] false (.tmp 7))), .mk (some 9) (some (6, true)) (.k (.cmp .leq .i64 (.tmp 8) (.const (.int .i64 11)))), .mk (some 10) none (.k (.pick (.tmp 6) (.tmp 9) (.const (.bool false))))]) (.cond (.tmp 10) (.ref 0) .skip)) (.ref 1)
def T146 : Nat → XC
 | 0 => T146n0
 | 1 => T146n1
 | 2 => T146n2
 | _ => .skip
theorem t146n0 : T146 0 = T146n0 := rfl
theorem t146n1 : T146 1 = T146n1 := rfl
theorem t146n2 : T146 2 = T146n2 := rfl
def X146 : XC := .seq (.ops [.mk (some 1) none (.k (.box 41 5 (.tmp 0))), .mk (some 2) none (.k (.mov (.const (.int .i64 0))))]) (.ref 2)
abbrev K146 : List Nat := [0, 1, 2, 10]
theorem n146 : Tryz.f146.ntmps = 13 := by kernel_rfl
theorem r146 : resT Tryz.f146.results.toList = some [2] := by kernel_rfl
theorem x146 : cmpF Tryz.prog Tryz.f146 = some (expand T146 4 X146) := by kernel_rfl
end Go.Proofs.YtlbiogokpadaoaaGreatDoor
namespace Go.Proofs.YtlbiogokpadaoaaGreatDoor
open Go Go.Sx
set_option maxRecDepth 100000
def T91n0 : XC := .cond (.tmp 5) .skip (.ops [.mk (some 7) none (.k (.cmp .eql .i64 (.tmp 4) (.const (.int .i64 11)))), .mk (some 5) none (.k (.mov (.tmp 7)))])
def T91n1 : XC := .seq (.ops [.mk (some 8) none (.k (.fld 2 (.tmp 1))), .mk (some 9) none (.k (.load [.int .i64] false (.tmp 8))), .mk (some 10) none (.k (.buildS 3 1 1 [.int .i64 0] [(0, .tmp 9)])), .mk (some 2) none (.k (.mov (.tmp 10)))]) .ret
def T91n2 : XC := .cond (.tmp 11) .skip (.ops [.mk (some 18) none (.k (.cmp .eql .i64 (.tmp 4) (.const (.int .i64 10)))), .mk (some 11) none (.k (.mov (.tmp 18)))])
def T91n3 : XC := .seq (.ops [.mk (some 17) none (.k (.cmp .eql .i64 (.tmp 4) (.const (.int .i64 9)))), .mk (some 11) none (.k (.mov (.tmp 17)))]) (.ref 2)
def T91n4 : XC := .seq (.ops [.mk (some 16) none (.k (.cmp .eql .i64 (.tmp 4) (.const (.int .i64 8)))), .mk (some 11) none (.k (.mov (.tmp 16)))]) (.cond (.tmp 11) .skip (.ref 3))
def T91n5 : XC := .seq (.ops [.mk (some 15) none (.k (.cmp .eql .i64 (.tmp 4) (.const (.int .i64 7)))), .mk (some 11) none (.k (.mov (.tmp 15)))]) (.cond (.tmp 11) .skip (.ref 4))
def T91n6 : XC := .seq (.ops [.mk (some 14) none (.k (.cmp .eql .i64 (.tmp 4) (.const (.int .i64 6)))), .mk (some 11) none (.k (.mov (.tmp 14)))]) (.cond (.tmp 11) .skip (.ref 5))
def T91n7 : XC := .seq (.ops [.mk (some 13) none (.k (.cmp .eql .i64 (.tmp 4) (.const (.int .i64 5)))), .mk (some 11) none (.k (.mov (.tmp 13)))]) (.cond (.tmp 11) .skip (.ref 6))
def T91n8 : XC := .seq (.ops [.mk (some 19) none (.k (.fld 2 (.tmp 1))), .mk (some 20) none (.k (.load [.int .i64] false (.tmp 19))), .mk (some 21) none (.k (.fld 3 (.tmp 1))), .mk (some 22) none (.k (.load [.int .i64] false (.tmp 21))), .mk (some 23) none (.k (.buildS 3 2 1 [.int .i64 0] [(0, .tmp 20), (1, .tmp 22)])), .mk (some 2) none (.k (.mov (.tmp 23)))]) .ret
def T91n9 : XC := .cond (.tmp 24) .skip (.ops [.mk (some 28) none (.k (.cmp .eql .i64 (.tmp 4) (.const (.int .i64 16)))), .mk (some 24) none (.k (.mov (.tmp 28)))])
def T91n10 : XC := .seq (.ops [.mk (some 27) none (.k (.cmp .eql .i64 (.tmp 4) (.const (.int .i64 15)))), .mk (some 24) none (.k (.mov (.tmp 27)))]) (.ref 9)
def T91n11 : XC := .seq (.ops [.mk (some 26) none (.k (.cmp .eql .i64 (.tmp 4) (.const (.int .i64 14)))), .mk (some 24) none (.k (.mov (.tmp 26)))]) (.cond (.tmp 24) .skip (.ref 10))
def T91n12 : XC := .seq (.ops [.mk (some 29) none (.k (.fld 1 (.tmp 1))), .mk (some 30) none (.k (.load [.int .i64] false (.tmp 29))), .mk (some 31) none (.k (.fld 2 (.tmp 1))), .mk (some 32) none (.k (.load [.int .i64] false (.tmp 31))), .mk (some 33) none (.k (.buildS 3 2 1 [.int .i64 0] [(0, .tmp 30), (1, .tmp 32)])), .mk (some 2) none (.k (.mov (.tmp 33)))]) .ret
def T91n13 : XC := .seq (.seq (.ops [.mk (some 25) none (.k (.cmp .eql .i64 (.tmp 4) (.const (.int .i64 12)))), .mk (some 24) none (.k (.mov (.tmp 25)))]) (.cond (.tmp 24) .skip (.ref 11))) (.cond (.tmp 24) (.ref 12) .skip)
def T91n14 : XC := .seq (.seq (.ops [.mk (some 12) none (.k (.cmp .eql .i64 (.tmp 4) (.const (.int .i64 4)))), .mk (some 11) none (.k (.mov (.tmp 12)))]) (.cond (.tmp 11) .skip (.ref 7))) (.cond (.tmp 11) (.ref 8) (.ref 13))
def T91n15 : XC := .blk 0 (.seq (.seq (.ops [.mk (some 6) none (.k (.cmp .eql .i64 (.tmp 4) (.const (.int .i64 3)))), .mk (some 5) none (.k (.mov (.tmp 6)))]) (.ref 0)) (.cond (.tmp 5) (.ref 1) (.ref 14)))
def T91n16 : XC := .seq (.ops [.mk (some 2) none (.k (.mov (.const (.slice none 0 0))))]) .ret
def T91n17 : XC := .seq (.seq (.ops [.mk (some 3) none (.k (.fld 0 (.tmp 1))), .mk (some 4) none (.k (.load [.int .i64] false (.tmp 3)))]) (.ref 15)) (.ref 16)
def T91 : Nat → XC
 | 0 => T91n0
 | 1 => T91n1
 | 2 => T91n2
 | 3 => T91n3
 | 4 => T91n4
 | 5 => T91n5
 | 6 => T91n6
 | 7 => T91n7
 | 8 => T91n8
 | 9 => T91n9
 | 10 => T91n10
 | 11 => T91n11
 | 12 => T91n12
 | 13 => T91n13
 | 14 => T91n14
 | 15 => T91n15
 | 16 => T91n16
 | 17 => T91n17
 | _ => .skip
theorem t91n0 : T91 0 = T91n0 := rfl
theorem t91n1 : T91 1 = T91n1 := rfl
theorem t91n2 : T91 2 = T91n2 := rfl
theorem t91n3 : T91 3 = T91n3 := rfl
theorem t91n4 : T91 4 = T91n4 := rfl
theorem t91n5 : T91 5 = T91n5 := rfl
theorem t91n6 : T91 6 = T91n6 := rfl
theorem t91n7 : T91 7 = T91n7 := rfl
theorem t91n8 : T91 8 = T91n8 := rfl
theorem t91n9 : T91 9 = T91n9 := rfl
theorem t91n10 : T91 10 = T91n10 := rfl
theorem t91n11 : T91 11 = T91n11 := rfl
theorem t91n12 : T91 12 = T91n12 := rfl
theorem t91n13 : T91 13 = T91n13 := rfl
theorem t91n14 : T91 14 = T91n14 := rfl
theorem t91n15 : T91 15 = T91n15 := rfl
theorem t91n16 : T91 16 = T91n16 := rfl
theorem t91n17 : T91 17 = T91n17 := rfl
def X91 : XC := .seq (.ops [.mk (some 1) none (.k (.box 41 5 (.tmp 0))), .mk (some 2) none (.k (.mov (.const (.slice none 0 0))))]) (.ref 17)
abbrev K91 : List Nat := [0, 1, 2, 4, 5, 11, 24]
theorem n91 : Tryz.f91.ntmps = 34 := by kernel_rfl
theorem r91 : resT Tryz.f91.results.toList = some [2] := by kernel_rfl
theorem x91 : cmpF Tryz.prog Tryz.f91 = some (expand T91 19 X91) := by kernel_rfl
end Go.Proofs.YtlbiogokpadaoaaGreatDoor
