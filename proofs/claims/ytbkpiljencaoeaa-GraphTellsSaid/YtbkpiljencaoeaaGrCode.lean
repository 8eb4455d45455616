/- Printed by program: the small code of functions, and that it is theirs. -/
import Derived.Test.YtbkpiljencaoeaaSxStill
import Derived.Test.YtbkpiljencaoeaaProg
import Derived.KernelRfl
set_option linter.unusedSimpArgs false
set_option linter.unusedVariables false
set_option linter.unnecessarySimpa false
namespace Go.Proofs.Ytbkpiljencaoeaa
open Go Go.Sx
set_option maxRecDepth 100000
def T3n0 : XC := .seq (.ops [.mk (some 28) none (.k (.mov (.tmp 5))), .mk (some 4) none (.k (.mov (.tmp 28)))]) .ret
def T3n1 : XC := .seq (.ops [.mk (some 43) none (.k (.mov (.tmp 5))), .mk (some 44) none (.k (.mov (.tmp 43))), .mk (some 45) (some (44, true)) (.k (.mov (.tmp 7))), .mk (some 46) (some (44, true)) (.k (.mov (.tmp 9))), .mk (some 47) (some (44, true)) (.k (.cmp .eql .i64 (.tmp 45) (.tmp 46))), .mk (some 48) none (.k (.pick (.tmp 44) (.tmp 47) (.const (.bool false)))), .mk (some 4) none (.k (.mov (.tmp 48)))]) .ret
def T3n2 : XC := .seq (.ops [.mk (some 4) none (.k (.mov (.const (.bool false))))]) .ret
def T3n3 : XC := .ops [.mk (some 65) none (.k (.mov (.tmp 12))), .mk (some 66) none (.k (.arith .add .i64 (.tmp 65) (.const (.int .i64 1)))), .mk (some 12) none (.k (.mov (.tmp 66)))]
def T3n4 : XC := .seq (.blk 3 (.ops [.mk (some 67) none (.k (.mov (.tmp 11))), .mk (some 68) none (.k (.mov (.tmp 67))), .mk (some 69) (some (68, false)) (.k (.mov (.tmp 1))), .mk (some 70) (some (68, false)) (.k (.mov (.tmp 12))), .mk (some 71) (some (68, false)) (.k (.idx 2 (.tmp 69) (.tmp 70))), .mk (some 72) (some (68, false)) (.k (.idxA 2 1 (.tmp 71) (.const (.int .i64 0)))), .mk (some 73) (some (68, false)) (.k (.load [.int .i64] false (.tmp 72))), .mk (some 74) (some (68, false)) (.k (.mov (.tmp 8))), .mk (some 75) (some (68, false)) (.k (.mov (.tmp 10))), .mk (some 76) (some (68, false)) (.k (.idx 1 (.tmp 74) (.tmp 75))), .mk (some 77) (some (68, false)) (.k (.load [.int .i64] false (.tmp 76))), .mk (some 78) (some (68, false)) (.k (.cmp .eql .i64 (.tmp 73) (.tmp 77))), .mk (some 79) (some (68, false)) (.k (.mov (.tmp 78))), .mk (some 80) (some (79, true)) (.k (.mov (.tmp 1))), .mk (some 81) (some (79, true)) (.k (.mov (.tmp 12))), .mk (some 82) (some (79, true)) (.k (.idx 2 (.tmp 80) (.tmp 81))), .mk (some 83) (some (79, true)) (.k (.idxA 2 1 (.tmp 82) (.const (.int .i64 1)))), .mk (some 84) (some (79, true)) (.k (.load [.int .i64] false (.tmp 83))), .mk (some 85) (some (79, true)) (.k (.mov (.tmp 8))), .mk (some 86) (some (79, true)) (.k (.mov (.tmp 10))), .mk (some 87) (some (79, true)) (.k (.arith .add .i64 (.tmp 86) (.const (.int .i64 1)))), .mk (some 88) (some (79, true)) (.k (.mov (.tmp 8))), .mk (some 89) (some (79, true)) (.k (.lenS (.tmp 88))), .mk (some 90) (some (79, true)) (.k (.div .rem .i64 (.tmp 87) (.tmp 89))), .mk (some 91) (some (79, true)) (.k (.idx 1 (.tmp 85) (.tmp 90))), .mk (some 92) (some (79, true)) (.k (.load [.int .i64] false (.tmp 91))), .mk (some 93) (some (79, true)) (.k (.cmp .eql .i64 (.tmp 84) (.tmp 92))), .mk (some 94) (some (68, false)) (.k (.pick (.tmp 79) (.tmp 93) (.const (.bool false)))), .mk (some 95) none (.k (.pick (.tmp 68) (.const (.bool true)) (.tmp 94))), .mk (some 11) none (.k (.mov (.tmp 95)))])) (.ref 3)
def T3n5 : XC := .seq (.seq (.ops [.mk (some 61) none (.k (.mov (.tmp 12))), .mk (some 62) none (.k (.mov (.tmp 1))), .mk (some 63) none (.k (.lenS (.tmp 62))), .mk (some 64) none (.k (.cmp .lss .i64 (.tmp 61) (.tmp 63)))]) (.cond (.tmp 64) .skip (.exit 2))) (.ref 4)
def T3n6 : XC := .seq (.ops [.mk (some 4) none (.k (.mov (.const (.bool false))))]) .ret
def T3n7 : XC := .seq (.ops [.mk (some 96) none (.k (.mov (.tmp 11))), .mk (some 97) none (.k (.not (.tmp 96))), .mk (some 98) none (.k (.mov (.tmp 97))), .mk (some 99) (some (98, false)) (.k (.mov (.tmp 8))), .mk (some 100) (some (98, false)) (.k (.mov (.tmp 10))), .mk (some 101) (some (98, false)) (.k (.idx 1 (.tmp 99) (.tmp 100))), .mk (some 102) (some (98, false)) (.k (.load [.int .i64] false (.tmp 101))), .mk (some 103) (some (98, false)) (.k (.mov (.tmp 8))), .mk (some 104) (some (98, false)) (.k (.idx 1 (.tmp 103) (.const (.int .i64 0)))), .mk (some 105) (some (98, false)) (.k (.load [.int .i64] false (.tmp 104))), .mk (some 106) (some (98, false)) (.k (.cmp .lss .i64 (.tmp 102) (.tmp 105))), .mk (some 107) none (.k (.pick (.tmp 98) (.const (.bool true)) (.tmp 106))), .mk (some 108) none (.k (.mov (.tmp 107))), .mk (some 109) (some (108, false)) (.k (.mov (.tmp 10))), .mk (some 110) (some (108, false)) (.k (.cmp .gtr .i64 (.tmp 109) (.const (.int .i64 0)))), .mk (some 111) (some (108, false)) (.k (.mov (.tmp 110))), .mk (some 112) (some (111, true)) (.k (.mov (.tmp 8))), .mk (some 113) (some (111, true)) (.k (.mov (.tmp 10))), .mk (some 114) (some (111, true)) (.k (.idx 1 (.tmp 112) (.tmp 113))), .mk (some 115) (some (111, true)) (.k (.load [.int .i64] false (.tmp 114))), .mk (some 116) (some (111, true)) (.k (.mov (.tmp 8))), .mk (some 117) (some (111, true)) (.k (.idx 1 (.tmp 116) (.const (.int .i64 0)))), .mk (some 118) (some (111, true)) (.k (.load [.int .i64] false (.tmp 117))), .mk (some 119) (some (111, true)) (.k (.cmp .eql .i64 (.tmp 115) (.tmp 118))), .mk (some 120) (some (108, false)) (.k (.pick (.tmp 111) (.tmp 119) (.const (.bool false)))), .mk (some 121) none (.k (.pick (.tmp 108) (.const (.bool true)) (.tmp 120)))]) (.cond (.tmp 121) (.ref 6) .skip)
def T3n8 : XC := .seq (.seq (.ops [.mk (some 12) none (.k (.mov (.const (.int .i64 0))))]) (.blk 2 (.loop (.ref 5)))) (.ref 7)
def T3n9 : XC := .ops [.mk (some 59) none (.k (.mov (.tmp 10))), .mk (some 60) none (.k (.arith .add .i64 (.tmp 59) (.const (.int .i64 1)))), .mk (some 10) none (.k (.mov (.tmp 60)))]
def T3n10 : XC := .seq (.blk 1 (.seq (.ops [.mk (some 11) none (.k (.mov (.const (.bool false))))]) (.ref 8))) (.ref 9)
def T3n11 : XC := .seq (.seq (.ops [.mk (some 55) none (.k (.mov (.tmp 10))), .mk (some 56) none (.k (.mov (.tmp 8))), .mk (some 57) none (.k (.lenS (.tmp 56))), .mk (some 58) none (.k (.cmp .lss .i64 (.tmp 55) (.tmp 57)))]) (.cond (.tmp 58) .skip (.exit 0))) (.ref 10)
def T3n12 : XC := .seq (.ops [.mk (some 124) none (.k (.mov (.tmp 5))), .mk (some 4) none (.k (.mov (.tmp 124)))]) .ret
def T3n13 : XC := .seq (.ops [.mk (some 4) none (.k (.mov (.const (.bool false))))]) .ret
def T3n14 : XC := .seq (.ops [.mk (some 4) none (.k (.mov (.const (.bool false))))]) .ret
def T3n15 : XC := .ops [.mk (some 159) none (.k (.mov (.tmp 13))), .mk (some 160) none (.k (.mov (.tmp 6))), .mk (some 161) none (.k (.mov (.tmp 14))), .mk (some 162) none (.k (.idx 1 (.tmp 160) (.tmp 161))), .mk (some 163) none (.k (.load [.int .i64] false (.tmp 162))), .mk (some 164) none (.k (.mov (.tmp 14))), .mk (some 165) none (.k (.arith .add .i64 (.tmp 164) (.const (.int .i64 1)))), .mk (some 166) none (.k (.idx 1 (.tmp 159) (.tmp 163))), .mk none none (.k (.store 1 (.tmp 166) (.tmp 165)))]
def T3n16 : XC := .ops [.mk (some 134) none (.k (.mov (.tmp 14))), .mk (some 135) none (.k (.arith .add .i64 (.tmp 134) (.const (.int .i64 1)))), .mk (some 14) none (.k (.mov (.tmp 135)))]
def T3n17 : XC := .seq (.blk 5 (.seq (.seq (.ops [.mk (some 136) none (.k (.mov (.tmp 6))), .mk (some 137) none (.k (.mov (.tmp 14))), .mk (some 138) none (.k (.idx 1 (.tmp 136) (.tmp 137))), .mk (some 139) none (.k (.load [.int .i64] false (.tmp 138))), .mk (some 140) none (.k (.cmp .lss .i64 (.tmp 139) (.const (.int .i64 0)))), .mk (some 141) none (.k (.mov (.tmp 140))), .mk (some 142) (some (141, false)) (.k (.mov (.tmp 6))), .mk (some 143) (some (141, false)) (.k (.mov (.tmp 14))), .mk (some 144) (some (141, false)) (.k (.idx 1 (.tmp 142) (.tmp 143))), .mk (some 145) (some (141, false)) (.k (.load [.int .i64] false (.tmp 144))), .mk (some 146) (some (141, false)) (.k (.mov (.tmp 0))), .mk (some 147) (some (141, false)) (.k (.cmp .geq .i64 (.tmp 145) (.tmp 146))), .mk (some 148) none (.k (.pick (.tmp 141) (.const (.bool true)) (.tmp 147))), .mk (some 149) none (.k (.mov (.tmp 148))), .mk (some 150) (some (149, false)) (.k (.mov (.tmp 13))), .mk (some 151) (some (149, false)) (.k (.mov (.tmp 6))), .mk (some 152) (some (149, false)) (.k (.mov (.tmp 14))), .mk (some 153) (some (149, false)) (.k (.idx 1 (.tmp 151) (.tmp 152))), .mk (some 154) (some (149, false)) (.k (.load [.int .i64] false (.tmp 153))), .mk (some 155) (some (149, false)) (.k (.idx 1 (.tmp 150) (.tmp 154))), .mk (some 156) (some (149, false)) (.k (.load [.int .i64] false (.tmp 155))), .mk (some 157) (some (149, false)) (.k (.cmp .gtr .i64 (.tmp 156) (.const (.int .i64 0)))), .mk (some 158) none (.k (.pick (.tmp 149) (.const (.bool true)) (.tmp 157)))]) (.cond (.tmp 158) (.ref 14) .skip)) (.ref 15))) (.ref 16)
def T3n18 : XC := .seq (.seq (.ops [.mk (some 131) none (.k (.mov (.tmp 14))), .mk (some 132) none (.k (.mov (.tmp 0))), .mk (some 133) none (.k (.cmp .lss .i64 (.tmp 131) (.tmp 132)))]) (.cond (.tmp 133) .skip (.exit 4))) (.ref 17)
def T3n19 : XC := .seq (.ops [.mk (some 4) none (.k (.mov (.const (.bool false))))]) .ret
def T3n20 : XC := .ops [.mk (some 171) none (.k (.mov (.tmp 15))), .mk (some 172) none (.k (.arith .add .i64 (.tmp 171) (.const (.int .i64 1)))), .mk (some 15) none (.k (.mov (.tmp 172)))]
def T3n21 : XC := .seq (.blk 7 (.seq (.ops [.mk (some 173) none (.k (.mov (.tmp 13))), .mk (some 174) none (.k (.mov (.tmp 1))), .mk (some 175) none (.k (.mov (.tmp 15))), .mk (some 176) none (.k (.idx 2 (.tmp 174) (.tmp 175))), .mk (some 177) none (.k (.idxA 2 1 (.tmp 176) (.const (.int .i64 0)))), .mk (some 178) none (.k (.load [.int .i64] false (.tmp 177))), .mk (some 179) none (.k (.idx 1 (.tmp 173) (.tmp 178))), .mk (some 180) none (.k (.load [.int .i64] false (.tmp 179))), .mk (some 181) none (.k (.mov (.tmp 13))), .mk (some 182) none (.k (.mov (.tmp 1))), .mk (some 183) none (.k (.mov (.tmp 15))), .mk (some 184) none (.k (.idx 2 (.tmp 182) (.tmp 183))), .mk (some 185) none (.k (.idxA 2 1 (.tmp 184) (.const (.int .i64 1)))), .mk (some 186) none (.k (.load [.int .i64] false (.tmp 185))), .mk (some 187) none (.k (.idx 1 (.tmp 181) (.tmp 186))), .mk (some 188) none (.k (.load [.int .i64] false (.tmp 187))), .mk (some 189) none (.k (.cmp .geq .i64 (.tmp 180) (.tmp 188)))]) (.cond (.tmp 189) (.ref 19) .skip))) (.ref 20)
def T3n22 : XC := .seq (.seq (.ops [.mk (some 167) none (.k (.mov (.tmp 15))), .mk (some 168) none (.k (.mov (.tmp 1))), .mk (some 169) none (.k (.lenS (.tmp 168))), .mk (some 170) none (.k (.cmp .lss .i64 (.tmp 167) (.tmp 169)))]) (.cond (.tmp 170) .skip (.exit 6))) (.ref 21)
def T3n23 : XC := .seq (.ops [.mk (some 190) none (.k (.mov (.tmp 5))), .mk (some 4) none (.k (.mov (.tmp 190)))]) .ret
def T3n24 : XC := .seq (.seq (.ops [.mk (some 15) none (.k (.mov (.const (.int .i64 0))))]) (.blk 6 (.loop (.ref 22)))) (.ref 23)
def T3n25 : XC := .seq (.seq (.ops [.mk (some 14) none (.k (.mov (.const (.int .i64 0))))]) (.blk 4 (.loop (.ref 18)))) (.ref 24)
def T3n26 : XC := .seq (.seq (.ops [.mk (some 127) none (.k (.mov (.tmp 6))), .mk (some 128) none (.k (.lenS (.tmp 127))), .mk (some 129) none (.k (.mov (.tmp 0))), .mk (some 130) none (.k (.cmp .neq .i64 (.tmp 128) (.tmp 129)))]) (.cond (.tmp 130) (.ref 13) .skip)) (.ref 25)
def T3n27 : XC := .seq (.ops [.mk (some 125) none (.k (.mov (.tmp 0))), .mk (some 126) none (.k (.mkslc 3 1 8 [.int .i64 0] (.tmp 125) (.tmp 125))), .mk (some 13) none (.k (.mov (.tmp 126)))]) (.ref 26)
def T3n28 : XC := .seq (.seq (.ops [.mk (some 122) none (.k (.mov (.tmp 7))), .mk (some 123) none (.k (.cmp .neq .i64 (.tmp 122) (.const (.int .i64 0))))]) (.cond (.tmp 123) (.ref 12) .skip)) (.ref 27)
def T3n29 : XC := .seq (.seq (.ops [.mk (some 10) none (.k (.mov (.const (.int .i64 0))))]) (.blk 0 (.loop (.ref 11)))) (.ref 28)
def T3n30 : XC := .seq (.seq (.ops [.mk (some 49) none (.k (.mov (.tmp 8))), .mk (some 50) none (.k (.lenS (.tmp 49))), .mk (some 51) none (.k (.cmp .eql .i64 (.tmp 50) (.const (.int .i64 0)))), .mk (some 52) none (.k (.mov (.tmp 7))), .mk (some 53) none (.k (.cmp .eql .i64 (.tmp 52) (.const (.int .i64 0)))), .mk (some 54) none (.k (.eqb true (.tmp 51) (.tmp 53)))]) (.cond (.tmp 54) (.ref 2) .skip)) (.ref 29)
def T3n31 : XC := .seq (.seq (.ops [.mk (some 41) none (.k (.mov (.tmp 9))), .mk (some 42) none (.k (.cmp .neq .i64 (.tmp 41) (.const (.int .i64 0))))]) (.cond (.tmp 42) (.ref 1) .skip)) (.ref 30)
def T3n32 : XC := .seq (.ops [.mk (some 36) none (.k (.mov (.tmp 0))), .mk (some 37) none (.k (.mov (.tmp 1))), .mk (some 38) none (.call 11 [.tmp 36, .tmp 37]), .mk (some 35) none (.k (.mov (.tmp 38))), .mk (some 39) none (.k (.ext (.tmp 35) 0)), .mk (some 40) none (.k (.ext (.tmp 35) 1)), .mk (some 8) none (.k (.mov (.tmp 39))), .mk (some 9) none (.k (.mov (.tmp 40)))]) (.ref 31)
def T3n33 : XC := .seq (.ops [.mk (some 30) none (.k (.mov (.tmp 0))), .mk (some 31) none (.k (.mov (.tmp 1))), .mk (some 32) none (.call 10 [.tmp 30, .tmp 31]), .mk (some 29) none (.k (.mov (.tmp 32))), .mk (some 33) none (.k (.ext (.tmp 29) 0)), .mk (some 34) none (.k (.ext (.tmp 29) 1)), .mk (some 6) none (.k (.mov (.tmp 33))), .mk (some 7) none (.k (.mov (.tmp 34)))]) (.ref 32)
def T3n34 : XC := .seq (.seq (.ops [.mk (some 17) none (.k (.mov (.tmp 0))), .mk (some 18) none (.k (.cmp .gtr .i64 (.tmp 17) (.const (.int .i64 60)))), .mk (some 19) none (.k (.mov (.tmp 18))), .mk (some 20) (some (19, false)) (.k (.mov (.tmp 1))), .mk (some 21) (some (19, false)) (.k (.lenS (.tmp 20))), .mk (some 22) (some (19, false)) (.k (.cmp .gtr .i64 (.tmp 21) (.const (.int .i64 300)))), .mk (some 23) none (.k (.pick (.tmp 19) (.const (.bool true)) (.tmp 22))), .mk (some 24) none (.k (.mov (.tmp 23))), .mk (some 25) (some (24, false)) (.k (.mov (.tmp 5))), .mk (some 26) (some (24, false)) (.k (.not (.tmp 25))), .mk (some 27) none (.k (.pick (.tmp 24) (.const (.bool true)) (.tmp 26)))]) (.cond (.tmp 27) (.ref 0) .skip)) (.ref 33)
def T3n35 : XC := .seq (.ops [.mk (some 16) none (.call 9 []), .mk (some 5) none (.k (.mov (.tmp 16)))]) (.ref 34)
def T3 : Nat → XC
 | 0 => T3n0
 | 1 => T3n1
 | 2 => T3n2
 | 3 => T3n3
 | 4 => T3n4
 | 5 => T3n5
 | 6 => T3n6
 | 7 => T3n7
 | 8 => T3n8
 | 9 => T3n9
 | 10 => T3n10
 | 11 => T3n11
 | 12 => T3n12
 | 13 => T3n13
 | 14 => T3n14
 | 15 => T3n15
 | 16 => T3n16
 | 17 => T3n17
 | 18 => T3n18
 | 19 => T3n19
 | 20 => T3n20
 | 21 => T3n21
 | 22 => T3n22
 | 23 => T3n23
 | 24 => T3n24
 | 25 => T3n25
 | 26 => T3n26
 | 27 => T3n27
 | 28 => T3n28
 | 29 => T3n29
 | 30 => T3n30
 | 31 => T3n31
 | 32 => T3n32
 | 33 => T3n33
 | 34 => T3n34
 | 35 => T3n35
 | _ => .skip
def X3 : XC := .seq (.ops [.mk (some 4) none (.k (.mov (.const (.bool false))))]) (.ref 35)
theorem n3 : Try.f3.ntmps = 191 := by kernel_rfl
theorem r3 : resT Try.f3.results.toList = some [4] := by kernel_rfl
theorem x3 : cmpF Try.prog Try.f3 = some (expand T3 37 X3) := by kernel_rfl
end Go.Proofs.Ytbkpiljencaoeaa
