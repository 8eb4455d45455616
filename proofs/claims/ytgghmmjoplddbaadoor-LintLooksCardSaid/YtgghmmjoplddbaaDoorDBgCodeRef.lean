/- Printed by program: the small code of functions, and that it is theirs. -/
import Derived.Test.YtgghmmjoplddbaaDoorSxStill
import Derived.Test.YtgghmmjoplddbaaDoorProg
import Derived.KernelRfl
set_option linter.unusedSimpArgs false
set_option linter.unusedVariables false
set_option linter.unnecessarySimpa false
namespace Go.Proofs.YtgghmmjoplddbaaDoor
open Go Go.Sx
set_option maxRecDepth 100000
def T12n0 : XC := .seq (.ops [.mk (some 2) none (.k (.mov (.const (.slice none 0 0)))), .mk (some 3) none (.k (.mov (.const (.int .i64 2))))]) .ret
def T12n1 : XC := .ops [.mk (some 86) none (.k (.mov (.tmp 11))), .mk (some 87) none (.k (.arith .add .i64 (.tmp 86) (.const (.int .i64 1)))), .mk (some 11) none (.k (.mov (.tmp 87)))]
def T12n2 : XC := .seq (.blk 5 (.ops [.mk (some 88) none (.k (.mov (.tmp 4))), .mk (some 89) none (.k (.mov (.tmp 6))), .mk (some 90) none (.k (.mov (.tmp 4))), .mk (some 91) none (.k (.mov (.tmp 6))), .mk (some 92) none (.k (.idx 9 (.tmp 90) (.tmp 91))), .mk (some 93) none (.k (.idxA 9 1 (.tmp 92) (.const (.int .i64 5)))), .mk (some 94) none (.k (.load [.bool] false (.tmp 93))), .mk (some 95) none (.k (.mov (.tmp 94))), .mk (some 96) (some (95, false)) (.k (.mov (.tmp 9))), .mk (some 97) (some (95, false)) (.k (.mov (.tmp 11))), .mk (some 98) (some (95, false)) (.k (.idx 2 (.tmp 96) (.tmp 97))), .mk (some 99) (some (95, false)) (.k (.idxA 2 1 (.tmp 98) (.const (.int .i64 1)))), .mk (some 100) (some (95, false)) (.k (.load [.int .i64] false (.tmp 99))), .mk (some 101) (some (95, false)) (.k (.cmp .eql .i64 (.tmp 100) (.const (.int .i64 1)))), .mk (some 102) (some (95, false)) (.k (.mov (.tmp 101))), .mk (some 103) (some (102, true)) (.k (.mov (.tmp 9))), .mk (some 104) (some (102, true)) (.k (.mov (.tmp 11))), .mk (some 105) (some (102, true)) (.k (.idx 2 (.tmp 103) (.tmp 104))), .mk (some 106) (some (102, true)) (.k (.idxA 2 1 (.tmp 105) (.const (.int .i64 0)))), .mk (some 107) (some (102, true)) (.k (.load [.int .i64] false (.tmp 106))), .mk (some 108) (some (102, true)) (.k (.mov (.tmp 0))), .mk (some 109) (some (102, true)) (.k (.lenS (.tmp 108))), .mk (some 110) (some (102, true)) (.k (.cmp .geq .i64 (.tmp 107) (.tmp 109))), .mk (some 111) (some (95, false)) (.k (.pick (.tmp 102) (.tmp 110) (.const (.bool false)))), .mk (some 112) none (.k (.pick (.tmp 95) (.const (.bool true)) (.tmp 111))), .mk (some 113) none (.k (.idx 9 (.tmp 88) (.tmp 89))), .mk (some 114) none (.k (.idxA 9 1 (.tmp 113) (.const (.int .i64 5)))), .mk none none (.k (.store 1 (.tmp 114) (.tmp 112)))])) (.ref 1)
def T12n3 : XC := .seq (.seq (.ops [.mk (some 82) none (.k (.mov (.tmp 11))), .mk (some 83) none (.k (.mov (.tmp 9))), .mk (some 84) none (.k (.lenS (.tmp 83))), .mk (some 85) none (.k (.cmp .lss .i64 (.tmp 82) (.tmp 84)))]) (.cond (.tmp 85) .skip (.exit 4))) (.ref 2)
def T12n4 : XC := .ops [.mk (some 131) none (.k (.mov (.tmp 4))), .mk (some 132) none (.k (.mov (.tmp 6))), .mk (some 133) none (.k (.mov (.tmp 4))), .mk (some 134) none (.k (.mov (.tmp 6))), .mk (some 135) none (.k (.idx 9 (.tmp 133) (.tmp 134))), .mk (some 136) none (.k (.idxA 9 1 (.tmp 135) (.const (.int .i64 6)))), .mk (some 137) none (.k (.load [.bool] false (.tmp 136))), .mk (some 138) none (.k (.mov (.tmp 137))), .mk (some 139) (some (138, false)) (.k (.mov (.tmp 13))), .mk (some 140) (some (138, false)) (.k (.mov (.tmp 139))), .mk (some 141) (some (140, true)) (.k (.fld 4 (.tmp 12))), .mk (some 142) (some (140, true)) (.k (.load [.int .i64] false (.tmp 141))), .mk (some 143) (some (140, true)) (.k (.cmp .lss .i64 (.tmp 142) (.const (.int .i64 0)))), .mk (some 144) (some (140, true)) (.k (.mov (.tmp 143))), .mk (some 145) (some (144, false)) (.k (.fld 4 (.tmp 12))), .mk (some 146) (some (144, false)) (.k (.load [.int .i64] false (.tmp 145))), .mk (some 147) (some (144, false)) (.k (.cmp .gtr .i64 (.tmp 146) (.const (.int .i64 1024)))), .mk (some 148) (some (140, true)) (.k (.pick (.tmp 144) (.const (.bool true)) (.tmp 147))), .mk (some 149) (some (138, false)) (.k (.pick (.tmp 140) (.tmp 148) (.const (.bool false)))), .mk (some 150) none (.k (.pick (.tmp 138) (.const (.bool true)) (.tmp 149))), .mk (some 151) none (.k (.idx 9 (.tmp 131) (.tmp 132))), .mk (some 152) none (.k (.idxA 9 1 (.tmp 151) (.const (.int .i64 6)))), .mk none none (.k (.store 1 (.tmp 152) (.tmp 150)))]
def T12n5 : XC := .seq (.ops [.mk (some 119) none (.k (.mov (.tmp 8))), .mk (some 120) none (.k (.cmp .neq .i64 (.tmp 119) (.const (.int .i64 1)))), .mk (some 121) none (.k (.mov (.tmp 120))), .mk (some 122) (some (121, true)) (.k (.fld 0 (.tmp 12))), .mk (some 123) (some (121, true)) (.k (.load [.int .i64] false (.tmp 122))), .mk (some 124) (some (121, true)) (.k (.cmp .geq .i64 (.tmp 123) (.const (.int .i64 13)))), .mk (some 125) none (.k (.pick (.tmp 121) (.tmp 124) (.const (.bool false)))), .mk (some 126) none (.k (.mov (.tmp 125))), .mk (some 127) (some (126, true)) (.k (.fld 0 (.tmp 12))), .mk (some 128) (some (126, true)) (.k (.load [.int .i64] false (.tmp 127))), .mk (some 129) (some (126, true)) (.k (.cmp .leq .i64 (.tmp 128) (.const (.int .i64 16)))), .mk (some 130) none (.k (.pick (.tmp 126) (.tmp 129) (.const (.bool false)))), .mk (some 13) none (.k (.mov (.tmp 130)))]) (.ref 4)
def T12n6 : XC := .seq (.ops [.mk (some 115) none (.k (.mov (.tmp 0))), .mk (some 116) none (.k (.mov (.tmp 6))), .mk (some 117) none (.k (.idx 5 (.tmp 115) (.tmp 116))), .mk (some 118) none (.k (.load [.int .i64, .int .i64, .int .i64, .int .i64, .int .i64] true (.tmp 117))), .mk (some 12) none (.k (.alloc 37 [.int .i64 0, .int .i64 0, .int .i64 0, .int .i64 0, .int .i64 0])), .mk none none (.k (.store 5 (.tmp 12) (.tmp 118)))]) (.ref 5)
def T12n7 : XC := .seq (.seq (.ops [.mk (some 11) none (.k (.mov (.const (.int .i64 0))))]) (.blk 4 (.loop (.ref 3)))) (.ref 6)
def T12n8 : XC := .seq (.ops [.mk (some 76) none (.k (.mov (.tmp 0))), .mk (some 77) none (.k (.mov (.tmp 6))), .mk (some 78) none (.k (.mov (.tmp 7))), .mk (some 79) none (.call 34 [.tmp 76, .tmp 77, .tmp 78]), .mk (some 75) none (.k (.mov (.tmp 79))), .mk (some 80) none (.k (.ext (.tmp 75) 0)), .mk (some 81) none (.k (.ext (.tmp 75) 1)), .mk (some 9) none (.k (.mov (.tmp 80))), .mk (some 10) none (.k (.mov (.tmp 81)))]) (.ref 7)
def T12n9 : XC := .seq (.ops [.mk (some 70) none (.k (.mov (.tmp 4))), .mk (some 71) none (.k (.mov (.tmp 6))), .mk (some 72) none (.k (.mov (.tmp 8))), .mk (some 73) none (.k (.idx 9 (.tmp 70) (.tmp 71))), .mk (some 74) none (.k (.idxA 9 1 (.tmp 73) (.tmp 72))), .mk none none (.k (.store 1 (.tmp 74) (.const (.bool true))))]) (.ref 8)
def T12n10 : XC := .seq (.ops [.mk (some 66) none (.k (.mov (.tmp 0))), .mk (some 67) none (.k (.mov (.tmp 6))), .mk (some 68) none (.k (.mov (.tmp 7))), .mk (some 69) none (.call 33 [.tmp 66, .tmp 67, .tmp 68]), .mk (some 8) none (.k (.mov (.tmp 69)))]) (.ref 9)
def T12n11 : XC := .ops [.mk (some 57) none (.k (.mov (.tmp 7))), .mk (some 58) none (.k (.arith .add .i64 (.tmp 57) (.const (.int .i64 1)))), .mk (some 7) none (.k (.mov (.tmp 58)))]
def T12n12 : XC := .seq (.blk 3 (.seq (.seq (.ops [.mk (some 59) none (.k (.mov (.tmp 5))), .mk (some 60) none (.k (.mov (.tmp 6))), .mk (some 61) none (.k (.mov (.tmp 7))), .mk (some 62) none (.k (.idx 2 (.tmp 59) (.tmp 60))), .mk (some 63) none (.k (.idxA 2 1 (.tmp 62) (.tmp 61))), .mk (some 64) none (.k (.load [.bool] false (.tmp 63))), .mk (some 65) none (.k (.not (.tmp 64)))]) (.cond (.tmp 65) (.exit 3) .skip)) (.ref 10))) (.ref 11)
def T12n13 : XC := .seq (.seq (.ops [.mk (some 55) none (.k (.mov (.tmp 7))), .mk (some 56) none (.k (.cmp .lss .i64 (.tmp 55) (.const (.int .i64 2))))]) (.cond (.tmp 56) .skip (.exit 2))) (.ref 12)
def T12n14 : XC := .seq (.ops [.mk (some 7) none (.k (.mov (.const (.int .i64 0))))]) (.blk 2 (.loop (.ref 13)))
def T12n15 : XC := .ops [.mk (some 35) none (.k (.mov (.tmp 6))), .mk (some 36) none (.k (.arith .add .i64 (.tmp 35) (.const (.int .i64 1)))), .mk (some 6) none (.k (.mov (.tmp 36)))]
def T12n16 : XC := .seq (.blk 1 (.seq (.ops [.mk (some 37) none (.k (.mov (.tmp 4))), .mk (some 38) none (.k (.mov (.tmp 6))), .mk (some 39) none (.k (.mov (.tmp 5))), .mk (some 40) none (.k (.mov (.tmp 6))), .mk (some 41) none (.k (.idx 2 (.tmp 39) (.tmp 40))), .mk (some 42) none (.k (.idxA 2 1 (.tmp 41) (.const (.int .i64 0)))), .mk (some 43) none (.k (.load [.bool] false (.tmp 42))), .mk (some 44) none (.k (.not (.tmp 43))), .mk (some 45) none (.k (.mov (.tmp 44))), .mk (some 46) (some (45, true)) (.k (.mov (.tmp 5))), .mk (some 47) (some (45, true)) (.k (.mov (.tmp 6))), .mk (some 48) (some (45, true)) (.k (.idx 2 (.tmp 46) (.tmp 47))), .mk (some 49) (some (45, true)) (.k (.idxA 2 1 (.tmp 48) (.const (.int .i64 1)))), .mk (some 50) (some (45, true)) (.k (.load [.bool] false (.tmp 49))), .mk (some 51) (some (45, true)) (.k (.not (.tmp 50))), .mk (some 52) none (.k (.pick (.tmp 45) (.tmp 51) (.const (.bool false)))), .mk (some 53) none (.k (.idx 9 (.tmp 37) (.tmp 38))), .mk (some 54) none (.k (.idxA 9 1 (.tmp 53) (.const (.int .i64 8)))), .mk none none (.k (.store 1 (.tmp 54) (.tmp 52)))]) (.ref 14))) (.ref 15)
def T12n17 : XC := .seq (.seq (.ops [.mk (some 31) none (.k (.mov (.tmp 6))), .mk (some 32) none (.k (.mov (.tmp 0))), .mk (some 33) none (.k (.lenS (.tmp 32))), .mk (some 34) none (.k (.cmp .lss .i64 (.tmp 31) (.tmp 33)))]) (.cond (.tmp 34) .skip (.exit 0))) (.ref 16)
def T12n18 : XC := .ops [.mk (some 180) none (.k (.mov (.tmp 19))), .mk (some 181) none (.k (.arith .add .i64 (.tmp 180) (.const (.int .i64 1)))), .mk (some 19) none (.k (.mov (.tmp 181)))]
def T12n19 : XC := .seq (.blk 11 (.ops [.mk (some 182) none (.k (.mov (.tmp 4))), .mk (some 183) none (.k (.mov (.tmp 16))), .mk (some 184) none (.k (.mov (.tmp 4))), .mk (some 185) none (.k (.mov (.tmp 16))), .mk (some 186) none (.k (.idx 9 (.tmp 184) (.tmp 185))), .mk (some 187) none (.k (.idxA 9 1 (.tmp 186) (.const (.int .i64 7)))), .mk (some 188) none (.k (.load [.bool] false (.tmp 187))), .mk (some 189) none (.k (.mov (.tmp 188))), .mk (some 190) (some (189, false)) (.k (.mov (.tmp 17))), .mk (some 191) (some (189, false)) (.k (.mov (.tmp 190))), .mk (some 192) (some (191, true)) (.k (.mov (.tmp 18))), .mk (some 193) (some (191, true)) (.k (.mov (.tmp 19))), .mk (some 194) (some (191, true)) (.k (.idx 1 (.tmp 192) (.tmp 193))), .mk (some 195) (some (191, true)) (.k (.load [.int .i64] false (.tmp 194))), .mk (some 196) (some (191, true)) (.k (.mov (.tmp 14))), .mk (some 197) (some (191, true)) (.k (.cmp .eql .i64 (.tmp 195) (.tmp 196))), .mk (some 198) (some (189, false)) (.k (.pick (.tmp 191) (.tmp 197) (.const (.bool false)))), .mk (some 199) (some (189, false)) (.k (.mov (.tmp 198))), .mk (some 200) (some (199, true)) (.k (.mov (.tmp 15))), .mk (some 201) (some (199, true)) (.k (.mov (.tmp 16))), .mk (some 202) (some (199, true)) (.k (.idx 2 (.tmp 200) (.tmp 201))), .mk (some 203) (some (199, true)) (.k (.idxA 2 1 (.tmp 202) (.const (.int .i64 0)))), .mk (some 204) (some (199, true)) (.k (.load [.bool] false (.tmp 203))), .mk (some 205) (some (199, true)) (.k (.mov (.tmp 204))), .mk (some 206) (some (205, false)) (.k (.mov (.tmp 15))), .mk (some 207) (some (205, false)) (.k (.mov (.tmp 16))), .mk (some 208) (some (205, false)) (.k (.idx 2 (.tmp 206) (.tmp 207))), .mk (some 209) (some (205, false)) (.k (.idxA 2 1 (.tmp 208) (.const (.int .i64 1)))), .mk (some 210) (some (205, false)) (.k (.load [.bool] false (.tmp 209))), .mk (some 211) (some (199, true)) (.k (.pick (.tmp 205) (.const (.bool true)) (.tmp 210))), .mk (some 212) (some (189, false)) (.k (.pick (.tmp 199) (.tmp 211) (.const (.bool false)))), .mk (some 213) none (.k (.pick (.tmp 189) (.const (.bool true)) (.tmp 212))), .mk (some 214) none (.k (.idx 9 (.tmp 182) (.tmp 183))), .mk (some 215) none (.k (.idxA 9 1 (.tmp 214) (.const (.int .i64 7)))), .mk none none (.k (.store 1 (.tmp 215) (.tmp 213)))])) (.ref 18)
def T12n20 : XC := .seq (.seq (.ops [.mk (some 176) none (.k (.mov (.tmp 19))), .mk (some 177) none (.k (.mov (.tmp 18))), .mk (some 178) none (.k (.lenS (.tmp 177))), .mk (some 179) none (.k (.cmp .lss .i64 (.tmp 176) (.tmp 178)))]) (.cond (.tmp 179) .skip (.exit 10))) (.ref 19)
def T12n21 : XC := .seq (.ops [.mk (some 19) none (.k (.mov (.const (.int .i64 0))))]) (.blk 10 (.loop (.ref 20)))
def T12n22 : XC := .seq (.ops [.mk (some 171) none (.k (.mov (.tmp 0))), .mk (some 172) none (.k (.mov (.tmp 16))), .mk (some 173) none (.k (.idx 5 (.tmp 171) (.tmp 172))), .mk (some 174) none (.k (.load [.int .i64, .int .i64, .int .i64, .int .i64, .int .i64] true (.tmp 173))), .mk (some 175) none (.call 36 [.tmp 174]), .mk (some 18) none (.k (.mov (.tmp 175)))]) (.ref 21)
def T12n23 : XC := .ops [.mk (some 164) none (.k (.mov (.tmp 16))), .mk (some 165) none (.k (.arith .add .i64 (.tmp 164) (.const (.int .i64 1)))), .mk (some 16) none (.k (.mov (.tmp 165)))]
def T12n24 : XC := .seq (.blk 9 (.seq (.ops [.mk (some 166) none (.k (.mov (.tmp 0))), .mk (some 167) none (.k (.mov (.tmp 16))), .mk (some 168) none (.k (.idx 5 (.tmp 166) (.tmp 167))), .mk (some 169) none (.k (.load [.int .i64, .int .i64, .int .i64, .int .i64, .int .i64] true (.tmp 168))), .mk (some 170) none (.call 35 [.tmp 169]), .mk (some 17) none (.k (.mov (.tmp 170)))]) (.ref 22))) (.ref 23)
def T12n25 : XC := .seq (.seq (.ops [.mk (some 160) none (.k (.mov (.tmp 16))), .mk (some 161) none (.k (.mov (.tmp 0))), .mk (some 162) none (.k (.lenS (.tmp 161))), .mk (some 163) none (.k (.cmp .lss .i64 (.tmp 160) (.tmp 162)))]) (.cond (.tmp 163) .skip (.exit 8))) (.ref 24)
def T12n26 : XC := .seq (.ops [.mk (some 16) none (.k (.mov (.const (.int .i64 0))))]) (.blk 8 (.loop (.ref 25)))
def T12n27 : XC := .ops [.mk (some 155) none (.k (.mov (.tmp 14))), .mk (some 156) none (.k (.arith .add .i64 (.tmp 155) (.const (.int .i64 1)))), .mk (some 14) none (.k (.mov (.tmp 156)))]
def T12n28 : XC := .seq (.blk 7 (.seq (.ops [.mk (some 157) none (.k (.mov (.tmp 0))), .mk (some 158) none (.k (.mov (.tmp 14))), .mk (some 159) none (.call 32 [.tmp 157, .tmp 158]), .mk (some 15) none (.k (.mov (.tmp 159)))]) (.ref 26))) (.ref 27)
def T12n29 : XC := .seq (.seq (.ops [.mk (some 153) none (.k (.mov (.tmp 14))), .mk (some 154) none (.k (.cmp .lss .i64 (.tmp 153) (.const (.int .i64 8))))]) (.cond (.tmp 154) .skip (.exit 6))) (.ref 28)
def T12n30 : XC := .ops [.mk (some 232) none (.k (.mov (.tmp 20))), .mk (some 233) none (.k (.mov (.tmp 21))), .mk (some 234) none (.k (.mov (.tmp 22))), .mk (some 235) none (.k (.build [.int .i64 0, .int .i64 0] [(0, 1, .tmp 233), (1, 1, .tmp 234)])), .mk (some 236) none (.k (.buildS 73 1 2 [.int .i64 0, .int .i64 0] [(0, .tmp 235)])), .mk (some 237) none (.k (.app 73 2 16 (.tmp 232) (.tmp 236))), .mk (some 20) none (.k (.mov (.tmp 237)))]
def T12n31 : XC := .ops [.mk (some 224) none (.k (.mov (.tmp 22))), .mk (some 225) none (.k (.arith .add .i64 (.tmp 224) (.const (.int .i64 1)))), .mk (some 22) none (.k (.mov (.tmp 225)))]
def T12n32 : XC := .seq (.blk 15 (.seq (.ops [.mk (some 226) none (.k (.mov (.tmp 4))), .mk (some 227) none (.k (.mov (.tmp 22))), .mk (some 228) none (.k (.mov (.tmp 21))), .mk (some 229) none (.k (.idx 9 (.tmp 226) (.tmp 227))), .mk (some 230) none (.k (.idxA 9 1 (.tmp 229) (.tmp 228))), .mk (some 231) none (.k (.load [.bool] false (.tmp 230)))]) (.cond (.tmp 231) (.ref 30) .skip))) (.ref 31)
def T12n33 : XC := .seq (.seq (.ops [.mk (some 220) none (.k (.mov (.tmp 22))), .mk (some 221) none (.k (.mov (.tmp 0))), .mk (some 222) none (.k (.lenS (.tmp 221))), .mk (some 223) none (.k (.cmp .lss .i64 (.tmp 220) (.tmp 222)))]) (.cond (.tmp 223) .skip (.exit 14))) (.ref 32)
def T12n34 : XC := .ops [.mk (some 218) none (.k (.mov (.tmp 21))), .mk (some 219) none (.k (.arith .add .i64 (.tmp 218) (.const (.int .i64 1)))), .mk (some 21) none (.k (.mov (.tmp 219)))]
def T12n35 : XC := .seq (.blk 13 (.seq (.ops [.mk (some 22) none (.k (.mov (.const (.int .i64 0))))]) (.blk 14 (.loop (.ref 33))))) (.ref 34)
def T12n36 : XC := .seq (.seq (.ops [.mk (some 216) none (.k (.mov (.tmp 21))), .mk (some 217) none (.k (.cmp .leq .i64 (.tmp 216) (.const (.int .i64 8))))]) (.cond (.tmp 217) .skip (.exit 12))) (.ref 35)
def T12n37 : XC := .seq (.ops [.mk (some 238) none (.k (.mov (.tmp 20))), .mk (some 2) none (.k (.mov (.tmp 238))), .mk (some 3) none (.k (.mov (.const (.int .i64 0))))]) .ret
def T12n38 : XC := .seq (.seq (.ops [.mk (some 21) none (.k (.mov (.const (.int .i64 1))))]) (.blk 12 (.loop (.ref 36)))) (.ref 37)
def T12n39 : XC := .seq (.ops [.mk (some 20) none (.k (.mov (.const (.slice none 0 0))))]) (.ref 38)
def T12n40 : XC := .seq (.seq (.ops [.mk (some 14) none (.k (.mov (.const (.int .i64 0))))]) (.blk 6 (.loop (.ref 29)))) (.ref 39)
def T12n41 : XC := .seq (.seq (.ops [.mk (some 6) none (.k (.mov (.const (.int .i64 0))))]) (.blk 0 (.loop (.ref 17)))) (.ref 40)
def T12n42 : XC := .seq (.ops [.mk (some 29) none (.k (.mov (.tmp 0))), .mk (some 30) none (.call 32 [.tmp 29, .const (.int .i64 (-1))]), .mk (some 5) none (.k (.mov (.tmp 30)))]) (.ref 41)
def T12n43 : XC := .seq (.ops [.mk (some 26) none (.k (.mov (.tmp 0))), .mk (some 27) none (.k (.lenS (.tmp 26))), .mk (some 28) none (.k (.mkslc 82 9 9 [.bool false, .bool false, .bool false, .bool false, .bool false, .bool false, .bool false, .bool false, .bool false] (.tmp 27) (.tmp 27))), .mk (some 4) none (.k (.mov (.tmp 28)))]) (.ref 42)
def T12n44 : XC := .seq (.seq (.ops [.mk (some 23) none (.k (.mov (.tmp 0))), .mk (some 24) none (.k (.lenS (.tmp 23))), .mk (some 25) none (.k (.cmp .gtr .i64 (.tmp 24) (.const (.int .i64 1024))))]) (.cond (.tmp 25) (.ref 0) .skip)) (.ref 43)
def T12 : Nat → XC
 | 0 => T12n0
 | 1 => T12n1
 | 2 => T12n2
 | 3 => T12n3
 | 4 => T12n4
 | 5 => T12n5
 | 6 => T12n6
 | 7 => T12n7
 | 8 => T12n8
 | 9 => T12n9
 | 10 => T12n10
 | 11 => T12n11
 | 12 => T12n12
 | 13 => T12n13
 | 14 => T12n14
 | 15 => T12n15
 | 16 => T12n16
 | 17 => T12n17
 | 18 => T12n18
 | 19 => T12n19
 | 20 => T12n20
 | 21 => T12n21
 | 22 => T12n22
 | 23 => T12n23
 | 24 => T12n24
 | 25 => T12n25
 | 26 => T12n26
 | 27 => T12n27
 | 28 => T12n28
 | 29 => T12n29
 | 30 => T12n30
 | 31 => T12n31
 | 32 => T12n32
 | 33 => T12n33
 | 34 => T12n34
 | 35 => T12n35
 | 36 => T12n36
 | 37 => T12n37
 | 38 => T12n38
 | 39 => T12n39
 | 40 => T12n40
 | 41 => T12n41
 | 42 => T12n42
 | 43 => T12n43
 | 44 => T12n44
 | _ => .skip
theorem t12n0 : T12 0 = T12n0 := rfl
theorem t12n1 : T12 1 = T12n1 := rfl
theorem t12n2 : T12 2 = T12n2 := rfl
theorem t12n3 : T12 3 = T12n3 := rfl
theorem t12n4 : T12 4 = T12n4 := rfl
theorem t12n5 : T12 5 = T12n5 := rfl
theorem t12n6 : T12 6 = T12n6 := rfl
theorem t12n7 : T12 7 = T12n7 := rfl
theorem t12n8 : T12 8 = T12n8 := rfl
theorem t12n9 : T12 9 = T12n9 := rfl
theorem t12n10 : T12 10 = T12n10 := rfl
theorem t12n11 : T12 11 = T12n11 := rfl
theorem t12n12 : T12 12 = T12n12 := rfl
theorem t12n13 : T12 13 = T12n13 := rfl
theorem t12n14 : T12 14 = T12n14 := rfl
theorem t12n15 : T12 15 = T12n15 := rfl
theorem t12n16 : T12 16 = T12n16 := rfl
theorem t12n17 : T12 17 = T12n17 := rfl
theorem t12n18 : T12 18 = T12n18 := rfl
theorem t12n19 : T12 19 = T12n19 := rfl
theorem t12n20 : T12 20 = T12n20 := rfl
theorem t12n21 : T12 21 = T12n21 := rfl
theorem t12n22 : T12 22 = T12n22 := rfl
theorem t12n23 : T12 23 = T12n23 := rfl
theorem t12n24 : T12 24 = T12n24 := rfl
theorem t12n25 : T12 25 = T12n25 := rfl
theorem t12n26 : T12 26 = T12n26 := rfl
theorem t12n27 : T12 27 = T12n27 := rfl
theorem t12n28 : T12 28 = T12n28 := rfl
theorem t12n29 : T12 29 = T12n29 := rfl
theorem t12n30 : T12 30 = T12n30 := rfl
theorem t12n31 : T12 31 = T12n31 := rfl
theorem t12n32 : T12 32 = T12n32 := rfl
theorem t12n33 : T12 33 = T12n33 := rfl
theorem t12n34 : T12 34 = T12n34 := rfl
theorem t12n35 : T12 35 = T12n35 := rfl
theorem t12n36 : T12 36 = T12n36 := rfl
theorem t12n37 : T12 37 = T12n37 := rfl
theorem t12n38 : T12 38 = T12n38 := rfl
theorem t12n39 : T12 39 = T12n39 := rfl
theorem t12n40 : T12 40 = T12n40 := rfl
theorem t12n41 : T12 41 = T12n41 := rfl
theorem t12n42 : T12 42 = T12n42 := rfl
theorem t12n43 : T12 43 = T12n43 := rfl
theorem t12n44 : T12 44 = T12n44 := rfl
def X12 : XC := .seq (.ops [.mk (some 2) none (.k (.mov (.const (.slice none 0 0)))), .mk (some 3) none (.k (.mov (.const (.int .i64 0))))]) (.ref 44)
abbrev K12 : List Nat := [0, 2, 3, 4, 5, 6, 7, 8, 9, 11, 12, 13, 14, 15, 16, 17, 18, 19, 20, 21, 22, 25, 34, 56, 65, 85, 154, 163, 179, 217, 223, 231]
theorem n12 : Tryd.f12.ntmps = 239 := by kernel_rfl
theorem r12 : resT Tryd.f12.results.toList = some [2, 3] := by kernel_rfl
theorem x12 : cmpF Tryd.prog Tryd.f12 = some (expand T12 46 X12) := by kernel_rfl
def T32n0 : XC := .ops [.mk (some 85) none (.k (.mov (.tmp 5))), .mk (some 86) none (.k (.mov (.tmp 10))), .mk (some 87) none (.k (.mov (.tmp 12))), .mk (some 88) none (.k (.idx 2 (.tmp 86) (.tmp 87))), .mk (some 89) none (.k (.idxA 2 1 (.tmp 88) (.const (.int .i64 0)))), .mk (some 90) none (.k (.load [.int .i64] false (.tmp 89))), .mk (some 91) none (.k (.mov (.tmp 10))), .mk (some 92) none (.k (.mov (.tmp 12))), .mk (some 93) none (.k (.idx 2 (.tmp 91) (.tmp 92))), .mk (some 94) none (.k (.idxA 2 1 (.tmp 93) (.const (.int .i64 1)))), .mk (some 95) none (.k (.load [.int .i64] false (.tmp 94))), .mk (some 96) none (.k (.idx 2 (.tmp 85) (.tmp 90))), .mk (some 97) none (.k (.idxA 2 1 (.tmp 96) (.tmp 95))), .mk none none (.k (.store 1 (.tmp 97) (.const (.bool true))))]
def T32n1 : XC := .ops [.mk (some 65) none (.k (.mov (.tmp 12))), .mk (some 66) none (.k (.arith .add .i64 (.tmp 65) (.const (.int .i64 1)))), .mk (some 12) none (.k (.mov (.tmp 66)))]
def T32n2 : XC := .seq (.blk 7 (.seq (.ops [.mk (some 67) none (.k (.mov (.tmp 7))), .mk (some 68) none (.k (.mov (.tmp 67))), .mk (some 69) (some (68, false)) (.k (.mov (.tmp 5))), .mk (some 70) (some (68, false)) (.k (.mov (.tmp 10))), .mk (some 71) (some (68, false)) (.k (.mov (.tmp 12))), .mk (some 72) (some (68, false)) (.k (.idx 2 (.tmp 70) (.tmp 71))), .mk (some 73) (some (68, false)) (.k (.idxA 2 1 (.tmp 72) (.const (.int .i64 0)))), .mk (some 74) (some (68, false)) (.k (.load [.int .i64] false (.tmp 73))), .mk (some 75) (some (68, false)) (.k (.mov (.tmp 10))), .mk (some 76) (some (68, false)) (.k (.mov (.tmp 12))), .mk (some 77) (some (68, false)) (.k (.idx 2 (.tmp 75) (.tmp 76))), .mk (some 78) (some (68, false)) (.k (.idxA 2 1 (.tmp 77) (.const (.int .i64 1)))), .mk (some 79) (some (68, false)) (.k (.load [.int .i64] false (.tmp 78))), .mk (some 80) (some (68, false)) (.k (.idx 2 (.tmp 69) (.tmp 74))), .mk (some 81) (some (68, false)) (.k (.idxA 2 1 (.tmp 80) (.tmp 79))), .mk (some 82) (some (68, false)) (.k (.load [.bool] false (.tmp 81))), .mk (some 83) (some (68, false)) (.k (.not (.tmp 82))), .mk (some 84) none (.k (.pick (.tmp 68) (.const (.bool true)) (.tmp 83))), .mk (some 7) none (.k (.mov (.tmp 84)))]) (.ref 0))) (.ref 1)
def T32n3 : XC := .seq (.seq (.ops [.mk (some 61) none (.k (.mov (.tmp 12))), .mk (some 62) none (.k (.mov (.tmp 10))), .mk (some 63) none (.k (.lenS (.tmp 62))), .mk (some 64) none (.k (.cmp .lss .i64 (.tmp 61) (.tmp 63)))]) (.cond (.tmp 64) .skip (.exit 6))) (.ref 2)
def T32n4 : XC := .seq (.ops [.mk (some 12) none (.k (.mov (.const (.int .i64 0))))]) (.blk 6 (.loop (.ref 3)))
def T32n5 : XC := .seq (.ops [.mk (some 55) none (.k (.mov (.tmp 0))), .mk (some 56) none (.k (.mov (.tmp 8))), .mk (some 57) none (.k (.mov (.tmp 9))), .mk (some 58) none (.call 34 [.tmp 55, .tmp 56, .tmp 57]), .mk (some 54) none (.k (.mov (.tmp 58))), .mk (some 59) none (.k (.ext (.tmp 54) 0)), .mk (some 60) none (.k (.ext (.tmp 54) 1)), .mk (some 10) none (.k (.mov (.tmp 59))), .mk (some 11) none (.k (.mov (.tmp 60)))]) (.ref 4)
def T32n6 : XC := .ops [.mk (some 32) none (.k (.mov (.tmp 9))), .mk (some 33) none (.k (.arith .add .i64 (.tmp 32) (.const (.int .i64 1)))), .mk (some 9) none (.k (.mov (.tmp 33)))]
def T32n7 : XC := .seq (.blk 5 (.seq (.seq (.ops [.mk (some 34) none (.k (.mov (.tmp 5))), .mk (some 35) none (.k (.mov (.tmp 8))), .mk (some 36) none (.k (.mov (.tmp 9))), .mk (some 37) none (.k (.idx 2 (.tmp 34) (.tmp 35))), .mk (some 38) none (.k (.idxA 2 1 (.tmp 37) (.tmp 36))), .mk (some 39) none (.k (.load [.bool] false (.tmp 38))), .mk (some 40) none (.k (.not (.tmp 39))), .mk (some 41) none (.k (.mov (.tmp 40))), .mk (some 42) (some (41, false)) (.k (.mov (.tmp 1))), .mk (some 43) (some (41, false)) (.k (.cmp .geq .i64 (.tmp 42) (.const (.int .i64 0)))), .mk (some 44) (some (41, false)) (.k (.mov (.tmp 43))), .mk (some 45) (some (44, true)) (.k (.mov (.tmp 0))), .mk (some 46) (some (44, true)) (.k (.mov (.tmp 8))), .mk (some 47) (some (44, true)) (.k (.idx 5 (.tmp 45) (.tmp 46))), .mk (some 48) (some (44, true)) (.k (.load [.int .i64, .int .i64, .int .i64, .int .i64, .int .i64] true (.tmp 47))), .mk (some 49) (some (44, true)) (.call 53 [.tmp 48]), .mk (some 50) (some (44, true)) (.k (.mov (.tmp 1))), .mk (some 51) (some (44, true)) (.k (.cmp .eql .i64 (.tmp 49) (.tmp 50))), .mk (some 52) (some (41, false)) (.k (.pick (.tmp 44) (.tmp 51) (.const (.bool false)))), .mk (some 53) none (.k (.pick (.tmp 41) (.const (.bool true)) (.tmp 52)))]) (.cond (.tmp 53) (.exit 5) .skip)) (.ref 5))) (.ref 6)
def T32n8 : XC := .seq (.seq (.ops [.mk (some 30) none (.k (.mov (.tmp 9))), .mk (some 31) none (.k (.cmp .lss .i64 (.tmp 30) (.const (.int .i64 2))))]) (.cond (.tmp 31) .skip (.exit 4))) (.ref 7)
def T32n9 : XC := .ops [.mk (some 28) none (.k (.mov (.tmp 8))), .mk (some 29) none (.k (.arith .add .i64 (.tmp 28) (.const (.int .i64 1)))), .mk (some 8) none (.k (.mov (.tmp 29)))]
def T32n10 : XC := .seq (.blk 3 (.seq (.ops [.mk (some 9) none (.k (.mov (.const (.int .i64 0))))]) (.blk 4 (.loop (.ref 8))))) (.ref 9)
def T32n11 : XC := .seq (.seq (.ops [.mk (some 24) none (.k (.mov (.tmp 8))), .mk (some 25) none (.k (.mov (.tmp 0))), .mk (some 26) none (.k (.lenS (.tmp 25))), .mk (some 27) none (.k (.cmp .lss .i64 (.tmp 24) (.tmp 26)))]) (.cond (.tmp 27) .skip (.exit 2))) (.ref 10)
def T32n12 : XC := .seq (.ops [.mk (some 98) none (.k (.mov (.tmp 7))), .mk (some 99) none (.k (.not (.tmp 98)))]) (.cond (.tmp 99) (.exit 0) .skip)
def T32n13 : XC := .seq (.seq (.ops [.mk (some 8) none (.k (.mov (.const (.int .i64 0))))]) (.blk 2 (.loop (.ref 11)))) (.ref 12)
def T32n14 : XC := .ops [.mk (some 22) none (.k (.mov (.tmp 6))), .mk (some 23) none (.k (.arith .add .i64 (.tmp 22) (.const (.int .i64 1)))), .mk (some 6) none (.k (.mov (.tmp 23)))]
def T32n15 : XC := .seq (.blk 1 (.seq (.ops [.mk (some 7) none (.k (.mov (.const (.bool false))))]) (.ref 13))) (.ref 14)
def T32n16 : XC := .seq (.seq (.ops [.mk (some 17) none (.k (.mov (.tmp 6))), .mk (some 18) none (.k (.mov (.tmp 0))), .mk (some 19) none (.k (.lenS (.tmp 18))), .mk (some 20) none (.k (.arith .mul .i64 (.const (.int .i64 2)) (.tmp 19))), .mk (some 21) none (.k (.cmp .leq .i64 (.tmp 17) (.tmp 20)))]) (.cond (.tmp 21) .skip (.exit 0))) (.ref 15)
def T32n17 : XC := .seq (.ops [.mk (some 100) none (.k (.mov (.tmp 5))), .mk (some 4) none (.k (.mov (.tmp 100)))]) .ret
def T32n18 : XC := .seq (.seq (.ops [.mk (some 6) none (.k (.mov (.const (.int .i64 0))))]) (.blk 0 (.loop (.ref 16)))) (.ref 17)
def T32n19 : XC := .seq (.ops [.mk (some 14) none (.k (.mov (.tmp 5))), .mk (some 15) none (.k (.idx 2 (.tmp 14) (.const (.int .i64 0)))), .mk (some 16) none (.k (.idxA 2 1 (.tmp 15) (.const (.int .i64 0)))), .mk none none (.k (.store 1 (.tmp 16) (.const (.bool true))))]) (.ref 18)
def T32n20 : XC := .seq (.ops [.mk (some 13) none (.k (.mkslc 81 2 2 [.bool false, .bool false] (.const (.int .i64 1025)) (.const (.int .i64 1025)))), .mk (some 5) none (.k (.mov (.tmp 13)))]) (.ref 19)
def T32 : Nat → XC
 | 0 => T32n0
 | 1 => T32n1
 | 2 => T32n2
 | 3 => T32n3
 | 4 => T32n4
 | 5 => T32n5
 | 6 => T32n6
 | 7 => T32n7
 | 8 => T32n8
 | 9 => T32n9
 | 10 => T32n10
 | 11 => T32n11
 | 12 => T32n12
 | 13 => T32n13
 | 14 => T32n14
 | 15 => T32n15
 | 16 => T32n16
 | 17 => T32n17
 | 18 => T32n18
 | 19 => T32n19
 | 20 => T32n20
 | _ => .skip
theorem t32n0 : T32 0 = T32n0 := rfl
theorem t32n1 : T32 1 = T32n1 := rfl
theorem t32n2 : T32 2 = T32n2 := rfl
theorem t32n3 : T32 3 = T32n3 := rfl
theorem t32n4 : T32 4 = T32n4 := rfl
theorem t32n5 : T32 5 = T32n5 := rfl
theorem t32n6 : T32 6 = T32n6 := rfl
theorem t32n7 : T32 7 = T32n7 := rfl
theorem t32n8 : T32 8 = T32n8 := rfl
theorem t32n9 : T32 9 = T32n9 := rfl
theorem t32n10 : T32 10 = T32n10 := rfl
theorem t32n11 : T32 11 = T32n11 := rfl
theorem t32n12 : T32 12 = T32n12 := rfl
theorem t32n13 : T32 13 = T32n13 := rfl
theorem t32n14 : T32 14 = T32n14 := rfl
theorem t32n15 : T32 15 = T32n15 := rfl
theorem t32n16 : T32 16 = T32n16 := rfl
theorem t32n17 : T32 17 = T32n17 := rfl
theorem t32n18 : T32 18 = T32n18 := rfl
theorem t32n19 : T32 19 = T32n19 := rfl
theorem t32n20 : T32 20 = T32n20 := rfl
def X32 : XC := .seq (.ops [.mk (some 4) none (.k (.mov (.const (.slice none 0 0))))]) (.ref 20)
abbrev K32 : List Nat := [0, 1, 4, 5, 6, 7, 8, 9, 10, 12, 21, 27, 31, 53, 64, 99]
theorem n32 : Tryd.f32.ntmps = 101 := by kernel_rfl
theorem r32 : resT Tryd.f32.results.toList = some [4] := by kernel_rfl
theorem x32 : cmpF Tryd.prog Tryd.f32 = some (expand T32 22 X32) := by kernel_rfl
def T33n0 : XC := .seq (.ops [.mk (some 6) none (.k (.mov (.const (.int .i64 1))))]) .ret
def T33n1 : XC := .seq (.ops [.mk (some 6) none (.k (.mov (.const (.int .i64 2))))]) .ret
def T33n2 : XC := .seq (.ops [.mk (some 6) none (.k (.mov (.const (.int .i64 3))))]) .ret
def T33n3 : XC := .seq (.ops [.mk (some 6) none (.k (.mov (.const (.int .i64 4))))]) .ret
def T33n4 : XC := .seq (.ops [.mk (some 35) none (.k (.fld 0 (.tmp 7))), .mk (some 36) none (.k (.load [.int .i64] false (.tmp 35))), .mk (some 37) none (.k (.cmp .eql .i64 (.tmp 36) (.const (.int .i64 1)))), .mk (some 38) none (.k (.mov (.tmp 37))), .mk (some 39) (some (38, true)) (.k (.mov (.tmp 2))), .mk (some 40) (some (38, true)) (.k (.cmp .eql .i64 (.tmp 39) (.const (.int .i64 1)))), .mk (some 41) none (.k (.pick (.tmp 38) (.tmp 40) (.const (.bool false)))), .mk (some 34) none (.k (.mov (.tmp 41)))]) (.cond (.tmp 34) (.ref 3) .skip)
def T33n5 : XC := .seq (.ops [.mk (some 27) none (.k (.fld 0 (.tmp 7))), .mk (some 28) none (.k (.load [.int .i64] false (.tmp 27))), .mk (some 29) none (.k (.cmp .eql .i64 (.tmp 28) (.const (.int .i64 17)))), .mk (some 30) none (.k (.mov (.tmp 29))), .mk (some 31) (some (30, true)) (.k (.mov (.tmp 2))), .mk (some 32) (some (30, true)) (.k (.cmp .eql .i64 (.tmp 31) (.const (.int .i64 1)))), .mk (some 33) none (.k (.pick (.tmp 30) (.tmp 32) (.const (.bool false)))), .mk (some 26) none (.k (.mov (.tmp 33)))]) (.cond (.tmp 26) (.ref 2) (.ref 4))
def T33n6 : XC := .seq (.ops [.mk (some 19) none (.k (.fld 0 (.tmp 7))), .mk (some 20) none (.k (.load [.int .i64] false (.tmp 19))), .mk (some 21) none (.k (.cmp .eql .i64 (.tmp 20) (.const (.int .i64 18)))), .mk (some 22) none (.k (.mov (.tmp 21))), .mk (some 23) (some (22, true)) (.k (.mov (.tmp 2))), .mk (some 24) (some (22, true)) (.k (.cmp .eql .i64 (.tmp 23) (.const (.int .i64 0)))), .mk (some 25) none (.k (.pick (.tmp 22) (.tmp 24) (.const (.bool false)))), .mk (some 18) none (.k (.mov (.tmp 25)))]) (.cond (.tmp 18) (.ref 1) (.ref 5))
def T33n7 : XC := .seq (.ops [.mk (some 6) none (.k (.mov (.const (.int .i64 0))))]) .ret
def T33n8 : XC := .seq (.blk 0 (.seq (.ops [.mk (some 16) none (.k (.mov (.tmp 8))), .mk (some 17) none (.k (.not (.tmp 16))), .mk (some 15) none (.k (.mov (.tmp 17)))]) (.cond (.tmp 15) (.ref 0) (.ref 6)))) (.ref 7)
def T33n9 : XC := .seq (.ops [.mk (some 13) none (.k (.load [.int .i64, .int .i64, .int .i64, .int .i64, .int .i64] true (.tmp 7))), .mk (some 14) none (.call 35 [.tmp 13]), .mk (some 8) none (.k (.mov (.tmp 14)))]) (.ref 8)
def T33n10 : XC := .seq (.ops [.mk (some 9) none (.k (.mov (.tmp 0))), .mk (some 10) none (.k (.mov (.tmp 1))), .mk (some 11) none (.k (.idx 5 (.tmp 9) (.tmp 10))), .mk (some 12) none (.k (.load [.int .i64, .int .i64, .int .i64, .int .i64, .int .i64] true (.tmp 11))), .mk (some 7) none (.k (.alloc 37 [.int .i64 0, .int .i64 0, .int .i64 0, .int .i64 0, .int .i64 0])), .mk none none (.k (.store 5 (.tmp 7) (.tmp 12)))]) (.ref 9)
def T33 : Nat → XC
 | 0 => T33n0
 | 1 => T33n1
 | 2 => T33n2
 | 3 => T33n3
 | 4 => T33n4
 | 5 => T33n5
 | 6 => T33n6
 | 7 => T33n7
 | 8 => T33n8
 | 9 => T33n9
 | 10 => T33n10
 | _ => .skip
theorem t33n0 : T33 0 = T33n0 := rfl
theorem t33n1 : T33 1 = T33n1 := rfl
theorem t33n2 : T33 2 = T33n2 := rfl
theorem t33n3 : T33 3 = T33n3 := rfl
theorem t33n4 : T33 4 = T33n4 := rfl
theorem t33n5 : T33 5 = T33n5 := rfl
theorem t33n6 : T33 6 = T33n6 := rfl
theorem t33n7 : T33 7 = T33n7 := rfl
theorem t33n8 : T33 8 = T33n8 := rfl
theorem t33n9 : T33 9 = T33n9 := rfl
theorem t33n10 : T33 10 = T33n10 := rfl
def X33 : XC := .seq (.ops [.mk (some 6) none (.k (.mov (.const (.int .i64 0))))]) (.ref 10)
abbrev K33 : List Nat := [0, 1, 2, 6, 7, 8, 15, 18, 26, 34]
theorem n33 : Tryd.f33.ntmps = 42 := by kernel_rfl
theorem r33 : resT Tryd.f33.results.toList = some [6] := by kernel_rfl
theorem x33 : cmpF Tryd.prog Tryd.f33 = some (expand T33 12 X33) := by kernel_rfl
def T34n0 : XC := .seq (.ops [.mk (some 6) none (.k (.mov (.const (.slice none 0 0)))), .mk (some 7) none (.k (.mov (.const (.bool true))))]) .ret
def T34n1 : XC := .ops [.mk (some 75) none (.k (.mov (.tmp 11))), .mk (some 76) none (.k (.fld 4 (.tmp 8))), .mk (some 77) none (.k (.load [.int .i64] false (.tmp 76))), .mk (some 78) none (.k (.mov (.tmp 2))), .mk (some 79) none (.k (.build [.int .i64 0, .int .i64 0] [(0, 1, .tmp 77), (1, 1, .tmp 78)])), .mk (some 80) none (.k (.buildS 56 1 2 [.int .i64 0, .int .i64 0] [(0, .tmp 79)])), .mk (some 81) none (.k (.app 56 2 16 (.tmp 75) (.tmp 80))), .mk (some 11) none (.k (.mov (.tmp 81)))]
def T34n2 : XC := .seq (.ops [.mk (some 85) none (.k (.mov (.tmp 11))), .mk (some 6) none (.k (.mov (.tmp 85))), .mk (some 7) none (.k (.mov (.const (.bool true))))]) .ret
def T34n3 : XC := .seq (.ops [.mk (some 82) none (.k (.fld 0 (.tmp 8))), .mk (some 83) none (.k (.load [.int .i64] false (.tmp 82))), .mk (some 84) none (.k (.cmp .eql .i64 (.tmp 83) (.const (.int .i64 13))))]) (.cond (.tmp 84) (.ref 2) .skip)
def T34n4 : XC := .seq (.seq (.ops [.mk (some 67) none (.k (.fld 4 (.tmp 8))), .mk (some 68) none (.k (.load [.int .i64] false (.tmp 67))), .mk (some 69) none (.k (.cmp .geq .i64 (.tmp 68) (.const (.int .i64 0)))), .mk (some 70) none (.k (.mov (.tmp 69))), .mk (some 71) (some (70, true)) (.k (.fld 4 (.tmp 8))), .mk (some 72) (some (70, true)) (.k (.load [.int .i64] false (.tmp 71))), .mk (some 73) (some (70, true)) (.k (.cmp .leq .i64 (.tmp 72) (.const (.int .i64 1024)))), .mk (some 74) none (.k (.pick (.tmp 70) (.tmp 73) (.const (.bool false))))]) (.cond (.tmp 74) (.ref 1) .skip)) (.ref 3)
def T34n5 : XC := .seq (.ops [.mk (some 59) none (.k (.fld 0 (.tmp 8))), .mk (some 60) none (.k (.load [.int .i64] false (.tmp 59))), .mk (some 61) none (.k (.cmp .geq .i64 (.tmp 60) (.const (.int .i64 13)))), .mk (some 62) none (.k (.mov (.tmp 61))), .mk (some 63) (some (62, true)) (.k (.fld 0 (.tmp 8))), .mk (some 64) (some (62, true)) (.k (.load [.int .i64] false (.tmp 63))), .mk (some 65) (some (62, true)) (.k (.cmp .leq .i64 (.tmp 64) (.const (.int .i64 16)))), .mk (some 66) none (.k (.pick (.tmp 62) (.tmp 65) (.const (.bool false)))), .mk (some 58) none (.k (.mov (.tmp 66)))]) (.cond (.tmp 58) (.ref 4) .skip)
def T34n6 : XC := .cond (.tmp 53) (.ops [.mk (some 57) none (.k (.idxA 2 1 (.tmp 10) (.const (.int .i64 1)))), .mk none none (.k (.store 1 (.tmp 57) (.const (.int .i64 0))))]) (.ref 5)
def T34n7 : XC := .seq (.ops [.mk (some 54) none (.k (.fld 0 (.tmp 8))), .mk (some 55) none (.k (.load [.int .i64] false (.tmp 54))), .mk (some 56) none (.k (.cmp .eql .i64 (.tmp 55) (.const (.int .i64 18)))), .mk (some 53) none (.k (.mov (.tmp 56)))]) (.ref 6)
def T34n8 : XC := .cond (.tmp 48) (.ops [.mk (some 52) none (.k (.idxA 2 1 (.tmp 10) (.const (.int .i64 1)))), .mk none none (.k (.store 1 (.tmp 52) (.const (.int .i64 1))))]) (.ref 7)
def T34n9 : XC := .seq (.ops [.mk (some 49) none (.k (.fld 0 (.tmp 8))), .mk (some 50) none (.k (.load [.int .i64] false (.tmp 49))), .mk (some 51) none (.k (.cmp .eql .i64 (.tmp 50) (.const (.int .i64 17)))), .mk (some 48) none (.k (.mov (.tmp 51)))]) (.ref 8)
def T34n10 : XC := .seq (.ops [.mk (some 86) none (.k (.mov (.tmp 11))), .mk (some 87) none (.k (.load [.int .i64, .int .i64] true (.tmp 10))), .mk (some 88) none (.k (.buildS 56 1 2 [.int .i64 0, .int .i64 0] [(0, .tmp 87)])), .mk (some 89) none (.k (.app 56 2 16 (.tmp 86) (.tmp 88))), .mk (some 6) none (.k (.mov (.tmp 89))), .mk (some 7) none (.k (.mov (.const (.bool true))))]) .ret
def T34n11 : XC := .seq (.blk 0 (.seq (.ops [.mk (some 23) none (.k (.mov (.tmp 9))), .mk (some 24) none (.k (.not (.tmp 23))), .mk (some 25) none (.k (.mov (.tmp 24))), .mk (some 26) (some (25, false)) (.k (.fld 0 (.tmp 8))), .mk (some 27) (some (25, false)) (.k (.load [.int .i64] false (.tmp 26))), .mk (some 28) (some (25, false)) (.k (.cmp .eql .i64 (.tmp 27) (.const (.int .i64 1)))), .mk (some 29) none (.k (.pick (.tmp 25) (.const (.bool true)) (.tmp 28))), .mk (some 30) none (.k (.mov (.tmp 29))), .mk (some 31) (some (30, false)) (.k (.fld 0 (.tmp 8))), .mk (some 32) (some (30, false)) (.k (.load [.int .i64] false (.tmp 31))), .mk (some 33) (some (30, false)) (.k (.cmp .eql .i64 (.tmp 32) (.const (.int .i64 17)))), .mk (some 34) (some (30, false)) (.k (.mov (.tmp 33))), .mk (some 35) (some (34, true)) (.k (.mov (.tmp 2))), .mk (some 36) (some (34, true)) (.k (.cmp .eql .i64 (.tmp 35) (.const (.int .i64 1)))), .mk (some 37) (some (30, false)) (.k (.pick (.tmp 34) (.tmp 36) (.const (.bool false)))), .mk (some 38) none (.k (.pick (.tmp 30) (.const (.bool true)) (.tmp 37))), .mk (some 39) none (.k (.mov (.tmp 38))), .mk (some 40) (some (39, false)) (.k (.fld 0 (.tmp 8))), .mk (some 41) (some (39, false)) (.k (.load [.int .i64] false (.tmp 40))), .mk (some 42) (some (39, false)) (.k (.cmp .eql .i64 (.tmp 41) (.const (.int .i64 18)))), .mk (some 43) (some (39, false)) (.k (.mov (.tmp 42))), .mk (some 44) (some (43, true)) (.k (.mov (.tmp 2))), .mk (some 45) (some (43, true)) (.k (.cmp .eql .i64 (.tmp 44) (.const (.int .i64 0)))), .mk (some 46) (some (39, false)) (.k (.pick (.tmp 43) (.tmp 45) (.const (.bool false)))), .mk (some 47) none (.k (.pick (.tmp 39) (.const (.bool true)) (.tmp 46))), .mk (some 22) none (.k (.mov (.tmp 47)))]) (.cond (.tmp 22) (.ref 0) (.ref 9)))) (.ref 10)
def T34n12 : XC := .seq (.ops [.mk (some 11) none (.k (.mov (.const (.slice none 0 0))))]) (.ref 11)
def T34n13 : XC := .seq (.ops [.mk (some 18) none (.k (.mov (.tmp 1))), .mk (some 19) none (.k (.arith .add .i64 (.tmp 18) (.const (.int .i64 1)))), .mk (some 20) none (.k (.mov (.tmp 2))), .mk (some 21) none (.k (.build [.int .i64 0, .int .i64 0] [(0, 1, .tmp 19), (1, 1, .tmp 20)])), .mk (some 10) none (.k (.alloc 56 [.int .i64 0, .int .i64 0])), .mk none none (.k (.store 2 (.tmp 10) (.tmp 21)))]) (.ref 12)
def T34n14 : XC := .seq (.ops [.mk (some 16) none (.k (.load [.int .i64, .int .i64, .int .i64, .int .i64, .int .i64] true (.tmp 8))), .mk (some 17) none (.call 35 [.tmp 16]), .mk (some 9) none (.k (.mov (.tmp 17)))]) (.ref 13)
def T34n15 : XC := .seq (.ops [.mk (some 12) none (.k (.mov (.tmp 0))), .mk (some 13) none (.k (.mov (.tmp 1))), .mk (some 14) none (.k (.idx 5 (.tmp 12) (.tmp 13))), .mk (some 15) none (.k (.load [.int .i64, .int .i64, .int .i64, .int .i64, .int .i64] true (.tmp 14))), .mk (some 8) none (.k (.alloc 37 [.int .i64 0, .int .i64 0, .int .i64 0, .int .i64 0, .int .i64 0])), .mk none none (.k (.store 5 (.tmp 8) (.tmp 15)))]) (.ref 14)
def T34 : Nat → XC
 | 0 => T34n0
 | 1 => T34n1
 | 2 => T34n2
 | 3 => T34n3
 | 4 => T34n4
 | 5 => T34n5
 | 6 => T34n6
 | 7 => T34n7
 | 8 => T34n8
 | 9 => T34n9
 | 10 => T34n10
 | 11 => T34n11
 | 12 => T34n12
 | 13 => T34n13
 | 14 => T34n14
 | 15 => T34n15
 | _ => .skip
theorem t34n0 : T34 0 = T34n0 := rfl
theorem t34n1 : T34 1 = T34n1 := rfl
theorem t34n2 : T34 2 = T34n2 := rfl
theorem t34n3 : T34 3 = T34n3 := rfl
theorem t34n4 : T34 4 = T34n4 := rfl
theorem t34n5 : T34 5 = T34n5 := rfl
theorem t34n6 : T34 6 = T34n6 := rfl
theorem t34n7 : T34 7 = T34n7 := rfl
theorem t34n8 : T34 8 = T34n8 := rfl
theorem t34n9 : T34 9 = T34n9 := rfl
theorem t34n10 : T34 10 = T34n10 := rfl
theorem t34n11 : T34 11 = T34n11 := rfl
theorem t34n12 : T34 12 = T34n12 := rfl
theorem t34n13 : T34 13 = T34n13 := rfl
theorem t34n14 : T34 14 = T34n14 := rfl
theorem t34n15 : T34 15 = T34n15 := rfl
def X34 : XC := .seq (.ops [.mk (some 6) none (.k (.mov (.const (.slice none 0 0)))), .mk (some 7) none (.k (.mov (.const (.bool false))))]) (.ref 15)
abbrev K34 : List Nat := [0, 1, 2, 6, 7, 8, 9, 10, 11, 22, 48, 53, 58, 74, 84]
theorem n34 : Tryd.f34.ntmps = 90 := by kernel_rfl
theorem r34 : resT Tryd.f34.results.toList = some [6, 7] := by kernel_rfl
theorem x34 : cmpF Tryd.prog Tryd.f34 = some (expand T34 17 X34) := by kernel_rfl
def T53n0 : XC := .seq (.ops [.mk (some 11) none (.k (.fld 1 (.tmp 1))), .mk (some 12) none (.k (.load [.int .i64] false (.tmp 11))), .mk (some 2) none (.k (.mov (.tmp 12)))]) .ret
def T53n1 : XC := .seq (.ops [.mk (some 2) none (.k (.mov (.const (.int .i64 (-1)))))]) .ret
def T53n2 : XC := .seq (.seq (.ops [.mk (some 3) none (.k (.fld 0 (.tmp 1))), .mk (some 4) none (.k (.load [.int .i64] false (.tmp 3))), .mk (some 5) none (.k (.cmp .geq .i64 (.tmp 4) (.const (.int .i64 2)))), .mk (some 6) none (.k (.mov (.tmp 5))), .mk (some 7) (some (6, true)) (.k (.fld 0 (.tmp 1))), .mk (some 8) (some (6, true)) (.k (.load [.int .i64] false (.tmp 7))), .mk (some 9) (some (6, true)) (.k (.cmp .leq .i64 (.tmp 8) (.const (.int .i64 11)))), .mk (some 10) none (.k (.pick (.tmp 6) (.tmp 9) (.const (.bool false))))]) (.cond (.tmp 10) (.ref 0) .skip)) (.ref 1)
def T53 : Nat → XC
 | 0 => T53n0
 | 1 => T53n1
 | 2 => T53n2
 | _ => .skip
theorem t53n0 : T53 0 = T53n0 := rfl
theorem t53n1 : T53 1 = T53n1 := rfl
theorem t53n2 : T53 2 = T53n2 := rfl
def X53 : XC := .seq (.ops [.mk (some 1) none (.k (.box 37 5 (.tmp 0))), .mk (some 2) none (.k (.mov (.const (.int .i64 0))))]) (.ref 2)
abbrev K53 : List Nat := [0, 1, 2, 10]
theorem n53 : Tryd.f53.ntmps = 13 := by kernel_rfl
theorem r53 : resT Tryd.f53.results.toList = some [2] := by kernel_rfl
theorem x53 : cmpF Tryd.prog Tryd.f53 = some (expand T53 4 X53) := by kernel_rfl
end Go.Proofs.YtgghmmjoplddbaaDoor
namespace Go.Proofs.YtgghmmjoplddbaaDoor
open Go Go.Sx
set_option maxRecDepth 100000
def T36n0 : XC := .cond (.tmp 5) .skip (.ops [.mk (some 7) none (.k (.cmp .eql .i64 (.tmp 4) (.const (.int .i64 11)))), .mk (some 5) none (.k (.mov (.tmp 7)))])
def T36n1 : XC := .seq (.ops [.mk (some 8) none (.k (.fld 2 (.tmp 1))), .mk (some 9) none (.k (.load [.int .i64] false (.tmp 8))), .mk (some 10) none (.k (.buildS 3 1 1 [.int .i64 0] [(0, .tmp 9)])), .mk (some 2) none (.k (.mov (.tmp 10)))]) .ret
def T36n2 : XC := .cond (.tmp 11) .skip (.ops [.mk (some 18) none (.k (.cmp .eql .i64 (.tmp 4) (.const (.int .i64 10)))), .mk (some 11) none (.k (.mov (.tmp 18)))])
def T36n3 : XC := .seq (.ops [.mk (some 17) none (.k (.cmp .eql .i64 (.tmp 4) (.const (.int .i64 9)))), .mk (some 11) none (.k (.mov (.tmp 17)))]) (.ref 2)
def T36n4 : XC := .seq (.ops [.mk (some 16) none (.k (.cmp .eql .i64 (.tmp 4) (.const (.int .i64 8)))), .mk (some 11) none (.k (.mov (.tmp 16)))]) (.cond (.tmp 11) .skip (.ref 3))
def T36n5 : XC := .seq (.ops [.mk (some 15) none (.k (.cmp .eql .i64 (.tmp 4) (.const (.int .i64 7)))), .mk (some 11) none (.k (.mov (.tmp 15)))]) (.cond (.tmp 11) .skip (.ref 4))
def T36n6 : XC := .seq (.ops [.mk (some 14) none (.k (.cmp .eql .i64 (.tmp 4) (.const (.int .i64 6)))), .mk (some 11) none (.k (.mov (.tmp 14)))]) (.cond (.tmp 11) .skip (.ref 5))
def T36n7 : XC := .seq (.ops [.mk (some 13) none (.k (.cmp .eql .i64 (.tmp 4) (.const (.int .i64 5)))), .mk (some 11) none (.k (.mov (.tmp 13)))]) (.cond (.tmp 11) .skip (.ref 6))
def T36n8 : XC := .seq (.ops [.mk (some 19) none (.k (.fld 2 (.tmp 1))), .mk (some 20) none (.k (.load [.int .i64] false (.tmp 19))), .mk (some 21) none (.k (.fld 3 (.tmp 1))), .mk (some 22) none (.k (.load [.int .i64] false (.tmp 21))), .mk (some 23) none (.k (.buildS 3 2 1 [.int .i64 0] [(0, .tmp 20), (1, .tmp 22)])), .mk (some 2) none (.k (.mov (.tmp 23)))]) .ret
def T36n9 : XC := .cond (.tmp 24) .skip (.ops [.mk (some 28) none (.k (.cmp .eql .i64 (.tmp 4) (.const (.int .i64 16)))), .mk (some 24) none (.k (.mov (.tmp 28)))])
def T36n10 : XC := .seq (.ops [.mk (some 27) none (.k (.cmp .eql .i64 (.tmp 4) (.const (.int .i64 15)))), .mk (some 24) none (.k (.mov (.tmp 27)))]) (.ref 9)
def T36n11 : XC := .seq (.ops [.mk (some 26) none (.k (.cmp .eql .i64 (.tmp 4) (.const (.int .i64 14)))), .mk (some 24) none (.k (.mov (.tmp 26)))]) (.cond (.tmp 24) .skip (.ref 10))
def T36n12 : XC := .seq (.ops [.mk (some 29) none (.k (.fld 1 (.tmp 1))), .mk (some 30) none (.k (.load [.int .i64] false (.tmp 29))), .mk (some 31) none (.k (.fld 2 (.tmp 1))), .mk (some 32) none (.k (.load [.int .i64] false (.tmp 31))), .mk (some 33) none (.k (.buildS 3 2 1 [.int .i64 0] [(0, .tmp 30), (1, .tmp 32)])), .mk (some 2) none (.k (.mov (.tmp 33)))]) .ret
def T36n13 : XC := .seq (.seq (.ops [.mk (some 25) none (.k (.cmp .eql .i64 (.tmp 4) (.const (.int .i64 12)))), .mk (some 24) none (.k (.mov (.tmp 25)))]) (.cond (.tmp 24) .skip (.ref 11))) (.cond (.tmp 24) (.ref 12) .skip)
def T36n14 : XC := .seq (.seq (.ops [.mk (some 12) none (.k (.cmp .eql .i64 (.tmp 4) (.const (.int .i64 4)))), .mk (some 11) none (.k (.mov (.tmp 12)))]) (.cond (.tmp 11) .skip (.ref 7))) (.cond (.tmp 11) (.ref 8) (.ref 13))
def T36n15 : XC := .blk 0 (.seq (.seq (.ops [.mk (some 6) none (.k (.cmp .eql .i64 (.tmp 4) (.const (.int .i64 3)))), .mk (some 5) none (.k (.mov (.tmp 6)))]) (.ref 0)) (.cond (.tmp 5) (.ref 1) (.ref 14)))
def T36n16 : XC := .seq (.ops [.mk (some 2) none (.k (.mov (.const (.slice none 0 0))))]) .ret
def T36n17 : XC := .seq (.seq (.ops [.mk (some 3) none (.k (.fld 0 (.tmp 1))), .mk (some 4) none (.k (.load [.int .i64] false (.tmp 3)))]) (.ref 15)) (.ref 16)
def T36 : Nat → XC
 | 0 => T36n0
 | 1 => T36n1
 | 2 => T36n2
 | 3 => T36n3
 | 4 => T36n4
 | 5 => T36n5
 | 6 => T36n6
 | 7 => T36n7
 | 8 => T36n8
 | 9 => T36n9
 | 10 => T36n10
 | 11 => T36n11
 | 12 => T36n12
 | 13 => T36n13
 | 14 => T36n14
 | 15 => T36n15
 | 16 => T36n16
 | 17 => T36n17
 | _ => .skip
theorem t36n0 : T36 0 = T36n0 := rfl
theorem t36n1 : T36 1 = T36n1 := rfl
theorem t36n2 : T36 2 = T36n2 := rfl
theorem t36n3 : T36 3 = T36n3 := rfl
theorem t36n4 : T36 4 = T36n4 := rfl
theorem t36n5 : T36 5 = T36n5 := rfl
theorem t36n6 : T36 6 = T36n6 := rfl
theorem t36n7 : T36 7 = T36n7 := rfl
theorem t36n8 : T36 8 = T36n8 := rfl
theorem t36n9 : T36 9 = T36n9 := rfl
theorem t36n10 : T36 10 = T36n10 := rfl
theorem t36n11 : T36 11 = T36n11 := rfl
theorem t36n12 : T36 12 = T36n12 := rfl
theorem t36n13 : T36 13 = T36n13 := rfl
theorem t36n14 : T36 14 = T36n14 := rfl
theorem t36n15 : T36 15 = T36n15 := rfl
theorem t36n16 : T36 16 = T36n16 := rfl
theorem t36n17 : T36 17 = T36n17 := rfl
def X36 : XC := .seq (.ops [.mk (some 1) none (.k (.box 37 5 (.tmp 0))), .mk (some 2) none (.k (.mov (.const (.slice none 0 0))))]) (.ref 17)
abbrev K36 : List Nat := [0, 1, 2, 4, 5, 11, 24]
theorem n36 : Tryd.f36.ntmps = 34 := by kernel_rfl
theorem r36 : resT Tryd.f36.results.toList = some [2] := by kernel_rfl
theorem x36 : cmpF Tryd.prog Tryd.f36 = some (expand T36 19 X36) := by kernel_rfl
end Go.Proofs.YtgghmmjoplddbaaDoor
