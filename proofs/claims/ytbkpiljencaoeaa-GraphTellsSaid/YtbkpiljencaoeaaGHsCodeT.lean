/- Printed by program: the small code of functions, and that it is theirs. -/
import Derived.Test.YtbkpiljencaoeaaSxStill
import Derived.Test.YtbkpiljencaoeaaProg
import Derived.KernelRfl
set_option linter.unusedSimpArgs false
set_option linter.unusedVariables false
set_option linter.unnecessarySimpa false
namespace Go.Proofs.Ytbkpiljencaoeaa
open Go Go.Sx
set_option maxRecDepth 100000
def T56n0 : XC := .ops [.mk (some 31) none (.k (.mov (.tmp 5))), .mk (some 32) none (.k (.mov (.tmp 8))), .mk (some 33) none (.k (.buildS 4 1 1 [.bool false] [(0, .tmp 32)])), .mk (some 34) none (.k (.app 4 1 1 (.tmp 31) (.tmp 33))), .mk (some 5) none (.k (.mov (.tmp 34)))]
def T56n1 : XC := .seq (.ops [.mk (some 27) none (.k (.mov (.tmp 4))), .mk (some 28) none (.k (.load [.int .i64, .int .i64, .int .i64, .int .i64, .int .i64, .int .i64, .int .i64, .slc, .slc, .bool, .int .i64] true (.tmp 7))), .mk (some 29) none (.k (.buildS 75 1 11 [.int .i64 0, .int .i64 0, .int .i64 0, .int .i64 0, .int .i64 0, .int .i64 0, .int .i64 0, .slice none 0 0, .slice none 0 0, .bool false, .int .i64 0] [(0, .tmp 28)])), .mk (some 30) none (.k (.app 75 11 120 (.tmp 27) (.tmp 29))), .mk (some 4) none (.k (.mov (.tmp 30)))]) (.ref 0)
def T56n2 : XC := .seq (.ops [.mk (some 22) none (.k (.mov (.tmp 0))), .mk (some 23) none (.k (.mov (.tmp 6))), .mk (some 24) none (.call 72 [.tmp 22, .tmp 23]), .mk (some 21) none (.k (.mov (.tmp 24))), .mk (some 25) none (.k (.ext (.tmp 21) 0)), .mk (some 26) none (.k (.ext (.tmp 21) 1)), .mk (some 7) none (.k (.alloc 75 [.int .i64 0, .int .i64 0, .int .i64 0, .int .i64 0, .int .i64 0, .int .i64 0, .int .i64 0, .slice none 0 0, .slice none 0 0, .bool false, .int .i64 0])), .mk none none (.k (.store 11 (.tmp 7) (.tmp 25))), .mk (some 8) none (.k (.mov (.tmp 26)))]) (.ref 1)
def T56n3 : XC := .ops [.mk (some 13) none (.k (.mov (.tmp 6))), .mk (some 14) none (.k (.arith .add .i64 (.tmp 13) (.const (.int .i64 1)))), .mk (some 6) none (.k (.mov (.tmp 14)))]
def T56n4 : XC := .seq (.blk 1 (.seq (.ops [.mk (some 15) none (.k (.mov (.tmp 0))), .mk (some 16) none (.k (.mov (.tmp 6))), .mk (some 17) none (.k (.idx 9 (.tmp 15) (.tmp 16))), .mk (some 18) none (.k (.fld 0 (.tmp 17))), .mk (some 19) none (.k (.load [.int .i64] false (.tmp 18))), .mk (some 20) none (.k (.cmp .eql .i64 (.tmp 19) (.const (.int .i64 1))))]) (.cond (.tmp 20) (.ref 2) .skip))) (.ref 3)
def T56n5 : XC := .seq (.seq (.ops [.mk (some 9) none (.k (.mov (.tmp 6))), .mk (some 10) none (.k (.mov (.tmp 0))), .mk (some 11) none (.k (.lenS (.tmp 10))), .mk (some 12) none (.k (.cmp .lss .i64 (.tmp 9) (.tmp 11)))]) (.cond (.tmp 12) .skip (.exit 0))) (.ref 4)
def T56n6 : XC := .seq (.ops [.mk (some 35) none (.k (.mov (.tmp 4))), .mk (some 36) none (.k (.mov (.tmp 5))), .mk (some 2) none (.k (.mov (.tmp 35))), .mk (some 3) none (.k (.mov (.tmp 36)))]) .ret
def T56n7 : XC := .seq (.seq (.ops [.mk (some 6) none (.k (.mov (.const (.int .i64 0))))]) (.blk 0 (.loop (.ref 5)))) (.ref 6)
def T56n8 : XC := .seq (.ops [.mk (some 5) none (.k (.mov (.const (.slice none 0 0))))]) (.ref 7)
def T56n9 : XC := .seq (.ops [.mk (some 4) none (.k (.mov (.const (.slice none 0 0))))]) (.ref 8)
def T56 : Nat → XC
 | 0 => T56n0
 | 1 => T56n1
 | 2 => T56n2
 | 3 => T56n3
 | 4 => T56n4
 | 5 => T56n5
 | 6 => T56n6
 | 7 => T56n7
 | 8 => T56n8
 | 9 => T56n9
 | _ => .skip
theorem t56n0 : T56 0 = T56n0 := rfl
theorem t56n1 : T56 1 = T56n1 := rfl
theorem t56n2 : T56 2 = T56n2 := rfl
theorem t56n3 : T56 3 = T56n3 := rfl
theorem t56n4 : T56 4 = T56n4 := rfl
theorem t56n5 : T56 5 = T56n5 := rfl
theorem t56n6 : T56 6 = T56n6 := rfl
theorem t56n7 : T56 7 = T56n7 := rfl
theorem t56n8 : T56 8 = T56n8 := rfl
theorem t56n9 : T56 9 = T56n9 := rfl
def X56 : XC := .seq (.ops [.mk (some 2) none (.k (.mov (.const (.slice none 0 0)))), .mk (some 3) none (.k (.mov (.const (.slice none 0 0))))]) (.ref 9)
abbrev K56 : List Nat := [0, 2, 3, 4, 5, 6, 7, 8, 12, 20]
theorem n56 : Try.f56.ntmps = 37 := by kernel_rfl
theorem r56 : resT Try.f56.results.toList = some [2, 3] := by kernel_rfl
theorem x56 : cmpF Try.prog Try.f56 = some (expand T56 11 X56) := by kernel_rfl
def T72n0 : XC := .cond (.tmp 100) (.ops [.mk (some 8) none (.k (.mov (.const (.bool true))))]) .skip
def T72n1 : XC := .ops [.mk (some 111) none (.k (.fld 7 (.tmp 7))), .mk (some 112) none (.k (.load [.slc] false (.tmp 111))), .mk (some 113) none (.k (.load [.int .i64, .int .u64] true (.tmp 14))), .mk (some 114) none (.k (.buildS 85 1 2 [.int .i64 0, .int .u64 0] [(0, .tmp 113)])), .mk (some 115) none (.k (.app 85 2 16 (.tmp 112) (.tmp 114))), .mk (some 116) none (.k (.fld 7 (.tmp 7))), .mk none none (.k (.store 1 (.tmp 116) (.tmp 115)))]
def T72n2 : XC := .ops [.mk (some 123) none (.k (.fld 8 (.tmp 7))), .mk (some 124) none (.k (.load [.slc] false (.tmp 123))), .mk (some 125) none (.k (.mov (.tmp 13))), .mk (some 126) none (.k (.load [.int .i64, .int .u64] true (.tmp 14))), .mk (some 127) none (.k (.idx 2 (.tmp 124) (.tmp 125))), .mk none none (.k (.store 2 (.tmp 127) (.tmp 126)))]
def T72n3 : XC := .ops [.mk (some 134) none (.k (.fld 8 (.tmp 7))), .mk (some 135) none (.k (.load [.slc] false (.tmp 134))), .mk (some 136) none (.k (.load [.int .i64, .int .u64] true (.tmp 14))), .mk (some 137) none (.k (.buildS 85 1 2 [.int .i64 0, .int .u64 0] [(0, .tmp 136)])), .mk (some 138) none (.k (.app 85 2 16 (.tmp 135) (.tmp 137))), .mk (some 139) none (.k (.fld 8 (.tmp 7))), .mk none none (.k (.store 1 (.tmp 139) (.tmp 138)))]
def T72n4 : XC := .ops [.mk (some 160) none (.k (.mov (.tmp 9))), .mk (some 161) none (.k (.fld 5 (.tmp 7))), .mk none none (.k (.store 1 (.tmp 161) (.tmp 160)))]
def T72n5 : XC := .ops [.mk (some 170) none (.k (.mov (.tmp 11))), .mk (some 171) none (.k (.cmp .eql .i64 (.tmp 170) (.const (.int .i64 5)))), .mk (some 172) none (.k (.fld 9 (.tmp 7))), .mk none none (.k (.store 1 (.tmp 172) (.tmp 171)))]
def T72n6 : XC := .seq (.ops [.mk (some 168) none (.k (.mov (.tmp 9))), .mk (some 169) none (.k (.fld 6 (.tmp 7))), .mk none none (.k (.store 1 (.tmp 169) (.tmp 168)))]) (.ref 5)
def T72n7 : XC := .ops [.mk (some 175) none (.k (.mov (.tmp 0))), .mk (some 176) none (.k (.mov (.tmp 9))), .mk (some 177) none (.k (.idx 9 (.tmp 175) (.tmp 176))), .mk (some 178) none (.k (.fld 8 (.tmp 177))), .mk (some 179) none (.k (.load [.int .i64] false (.tmp 178))), .mk (some 180) none (.k (.fld 10 (.tmp 7))), .mk none none (.k (.store 1 (.tmp 180) (.tmp 179)))]
def T72n8 : XC := .seq (.ops [.mk (some 173) none (.k (.mov (.tmp 11))), .mk (some 174) none (.k (.cmp .eql .i64 (.tmp 173) (.const (.int .i64 6))))]) (.cond (.tmp 174) (.ref 7) .skip)
def T72n9 : XC := .seq (.seq (.ops [.mk (some 162) none (.k (.mov (.tmp 11))), .mk (some 163) none (.k (.cmp .eql .i64 (.tmp 162) (.const (.int .i64 5)))), .mk (some 164) none (.k (.mov (.tmp 163))), .mk (some 165) (some (164, false)) (.k (.mov (.tmp 11))), .mk (some 166) (some (164, false)) (.k (.cmp .eql .i64 (.tmp 165) (.const (.int .i64 6)))), .mk (some 167) none (.k (.pick (.tmp 164) (.const (.bool true)) (.tmp 166)))]) (.cond (.tmp 167) (.ref 6) .skip)) (.ref 8)
def T72n10 : XC := .seq (.seq (.ops [.mk (some 140) none (.k (.fld 3 (.tmp 7))), .mk (some 141) none (.k (.load [.int .i64] false (.tmp 140))), .mk (some 142) none (.k (.cmp .leq .i64 (.tmp 141) (.const (.int .i64 2)))), .mk (some 143) none (.k (.mov (.tmp 142))), .mk (some 144) (some (143, true)) (.k (.mov (.tmp 11))), .mk (some 145) (some (143, true)) (.k (.cmp .eql .i64 (.tmp 144) (.const (.int .i64 2)))), .mk (some 146) (some (143, true)) (.k (.mov (.tmp 145))), .mk (some 147) (some (146, false)) (.k (.mov (.tmp 11))), .mk (some 148) (some (146, false)) (.k (.cmp .eql .i64 (.tmp 147) (.const (.int .i64 5)))), .mk (some 149) (some (143, true)) (.k (.pick (.tmp 146) (.const (.bool true)) (.tmp 148))), .mk (some 150) none (.k (.pick (.tmp 143) (.tmp 149) (.const (.bool false)))), .mk (some 151) none (.k (.mov (.tmp 150))), .mk (some 152) (some (151, false)) (.k (.fld 3 (.tmp 7))), .mk (some 153) (some (151, false)) (.k (.load [.int .i64] false (.tmp 152))), .mk (some 154) (some (151, false)) (.k (.cmp .gtr .i64 (.tmp 153) (.const (.int .i64 2)))), .mk (some 155) (some (151, false)) (.k (.mov (.tmp 154))), .mk (some 156) (some (155, true)) (.k (.mov (.tmp 11))), .mk (some 157) (some (155, true)) (.k (.cmp .eql .i64 (.tmp 156) (.const (.int .i64 4)))), .mk (some 158) (some (151, false)) (.k (.pick (.tmp 155) (.tmp 157) (.const (.bool false)))), .mk (some 159) none (.k (.pick (.tmp 151) (.const (.bool true)) (.tmp 158)))]) (.cond (.tmp 159) (.ref 4) .skip)) (.ref 9)
def T72n11 : XC := .seq (.seq (.ops [.mk (some 128) none (.k (.mov (.tmp 11))), .mk (some 129) none (.k (.cmp .eql .i64 (.tmp 128) (.const (.int .i64 3)))), .mk (some 130) none (.k (.mov (.tmp 129))), .mk (some 131) (some (130, true)) (.k (.mov (.tmp 13))), .mk (some 132) (some (130, true)) (.k (.cmp .lss .i64 (.tmp 131) (.const (.int .i64 0)))), .mk (some 133) none (.k (.pick (.tmp 130) (.tmp 132) (.const (.bool false))))]) (.cond (.tmp 133) (.ref 3) .skip)) (.ref 10)
def T72n12 : XC := .seq (.seq (.ops [.mk (some 117) none (.k (.mov (.tmp 11))), .mk (some 118) none (.k (.cmp .eql .i64 (.tmp 117) (.const (.int .i64 3)))), .mk (some 119) none (.k (.mov (.tmp 118))), .mk (some 120) (some (119, true)) (.k (.mov (.tmp 13))), .mk (some 121) (some (119, true)) (.k (.cmp .geq .i64 (.tmp 120) (.const (.int .i64 0)))), .mk (some 122) none (.k (.pick (.tmp 119) (.tmp 121) (.const (.bool false))))]) (.cond (.tmp 122) (.ref 2) .skip)) (.ref 11)
def T72n13 : XC := .seq (.seq (.ops [.mk (some 101) none (.k (.mov (.tmp 11))), .mk (some 102) none (.k (.cmp .eql .i64 (.tmp 101) (.const (.int .i64 2)))), .mk (some 103) none (.k (.mov (.tmp 102))), .mk (some 104) (some (103, true)) (.k (.mov (.tmp 13))), .mk (some 105) (some (103, true)) (.k (.cmp .lss .i64 (.tmp 104) (.const (.int .i64 0)))), .mk (some 106) none (.k (.pick (.tmp 103) (.tmp 105) (.const (.bool false)))), .mk (some 107) none (.k (.mov (.tmp 106))), .mk (some 108) (some (107, true)) (.k (.mov (.tmp 12))), .mk (some 109) (some (107, true)) (.k (.cmp .lss .i64 (.tmp 108) (.const (.int .i64 0)))), .mk (some 110) none (.k (.pick (.tmp 107) (.tmp 109) (.const (.bool false))))]) (.cond (.tmp 110) (.ref 1) .skip)) (.ref 12)
def T72n14 : XC := .seq (.seq (.ops [.mk (some 80) none (.k (.mov (.tmp 11))), .mk (some 81) none (.k (.cmp .eql .i64 (.tmp 80) (.const (.int .i64 2)))), .mk (some 82) none (.k (.mov (.tmp 81))), .mk (some 83) (some (82, true)) (.k (.mov (.tmp 13))), .mk (some 84) (some (82, true)) (.k (.cmp .lss .i64 (.tmp 83) (.const (.int .i64 0)))), .mk (some 85) none (.k (.pick (.tmp 82) (.tmp 84) (.const (.bool false)))), .mk (some 86) none (.k (.mov (.tmp 85))), .mk (some 87) (some (86, true)) (.k (.mov (.tmp 12))), .mk (some 88) (some (86, true)) (.k (.cmp .geq .i64 (.tmp 87) (.const (.int .i64 0)))), .mk (some 89) none (.k (.pick (.tmp 86) (.tmp 88) (.const (.bool false)))), .mk (some 90) none (.k (.mov (.tmp 89))), .mk (some 91) (some (90, true)) (.k (.fld 7 (.tmp 7))), .mk (some 92) (some (90, true)) (.k (.load [.slc] false (.tmp 91))), .mk (some 93) (some (90, true)) (.k (.mov (.tmp 12))), .mk (some 94) (some (90, true)) (.k (.idx 2 (.tmp 92) (.tmp 93))), .mk (some 95) (some (90, true)) (.k (.fld 1 (.tmp 94))), .mk (some 96) (some (90, true)) (.k (.load [.int .u64] false (.tmp 95))), .mk (some 97) (some (90, true)) (.k (.fld 1 (.tmp 14))), .mk (some 98) (some (90, true)) (.k (.load [.int .u64] false (.tmp 97))), .mk (some 99) (some (90, true)) (.k (.cmp .neq .u64 (.tmp 96) (.tmp 98))), .mk (some 100) none (.k (.pick (.tmp 90) (.tmp 99) (.const (.bool false))))]) (.ref 0)) (.ref 13)
def T72n15 : XC := .seq (.ops [.mk (some 69) none (.k (.mov (.tmp 0))), .mk (some 70) none (.k (.mov (.tmp 9))), .mk (some 71) none (.k (.idx 9 (.tmp 69) (.tmp 70))), .mk (some 72) none (.k (.fld 6 (.tmp 71))), .mk (some 73) none (.k (.load [.int .i64] false (.tmp 72))), .mk (some 74) none (.k (.mov (.tmp 0))), .mk (some 75) none (.k (.mov (.tmp 9))), .mk (some 76) none (.k (.idx 9 (.tmp 74) (.tmp 75))), .mk (some 77) none (.k (.fld 7 (.tmp 76))), .mk (some 78) none (.k (.load [.int .u64] false (.tmp 77))), .mk (some 79) none (.k (.build [.int .i64 0, .int .u64 0] [(0, 1, .tmp 73), (1, 1, .tmp 78)])), .mk (some 14) none (.k (.alloc 85 [.int .i64 0, .int .u64 0])), .mk none none (.k (.store 2 (.tmp 14) (.tmp 79)))]) (.ref 14)
def T72n16 : XC := .seq (.ops [.mk (some 61) none (.k (.fld 8 (.tmp 7))), .mk (some 62) none (.k (.load [.slc] false (.tmp 61))), .mk (some 63) none (.k (.mov (.tmp 0))), .mk (some 64) none (.k (.mov (.tmp 9))), .mk (some 65) none (.k (.idx 9 (.tmp 63) (.tmp 64))), .mk (some 66) none (.k (.fld 6 (.tmp 65))), .mk (some 67) none (.k (.load [.int .i64] false (.tmp 66))), .mk (some 68) none (.call 89 [.tmp 62, .tmp 67]), .mk (some 13) none (.k (.mov (.tmp 68)))]) (.ref 15)
def T72n17 : XC := .seq (.ops [.mk (some 53) none (.k (.fld 7 (.tmp 7))), .mk (some 54) none (.k (.load [.slc] false (.tmp 53))), .mk (some 55) none (.k (.mov (.tmp 0))), .mk (some 56) none (.k (.mov (.tmp 9))), .mk (some 57) none (.k (.idx 9 (.tmp 55) (.tmp 56))), .mk (some 58) none (.k (.fld 6 (.tmp 57))), .mk (some 59) none (.k (.load [.int .i64] false (.tmp 58))), .mk (some 60) none (.call 89 [.tmp 54, .tmp 59]), .mk (some 12) none (.k (.mov (.tmp 60)))]) (.ref 16)
def T72n18 : XC := .seq (.ops [.mk (some 48) none (.k (.mov (.tmp 0))), .mk (some 49) none (.k (.mov (.tmp 9))), .mk (some 50) none (.k (.idx 9 (.tmp 48) (.tmp 49))), .mk (some 51) none (.k (.fld 0 (.tmp 50))), .mk (some 52) none (.k (.load [.int .i64] false (.tmp 51))), .mk (some 11) none (.k (.mov (.tmp 52)))]) (.ref 17)
def T72n19 : XC := .seq (.seq (.ops [.mk (some 46) none (.k (.mov (.tmp 10))), .mk (some 47) none (.k (.not (.tmp 46)))]) (.cond (.tmp 47) (.exit 1) .skip)) (.ref 18)
def T72n20 : XC := .ops [.mk (some 40) none (.k (.mov (.tmp 9))), .mk (some 41) none (.k (.arith .add .i64 (.tmp 40) (.const (.int .i64 1)))), .mk (some 9) none (.k (.mov (.tmp 41)))]
def T72n21 : XC := .seq (.blk 1 (.seq (.ops [.mk (some 42) none (.k (.mov (.tmp 0))), .mk (some 43) none (.k (.load [.int .i64, .int .i64, .int .i64, .int .i64, .int .i64, .int .i64, .int .i64, .slc, .slc, .bool, .int .i64] true (.tmp 7))), .mk (some 44) none (.k (.mov (.tmp 9))), .mk (some 45) none (.call 88 [.tmp 42, .tmp 43, .tmp 44]), .mk (some 10) none (.k (.mov (.tmp 45)))]) (.ref 19))) (.ref 20)
def T72n22 : XC := .seq (.seq (.ops [.mk (some 31) none (.k (.mov (.tmp 9))), .mk (some 32) none (.k (.mov (.tmp 0))), .mk (some 33) none (.k (.lenS (.tmp 32))), .mk (some 34) none (.k (.cmp .lss .i64 (.tmp 31) (.tmp 33))), .mk (some 35) none (.k (.mov (.tmp 34))), .mk (some 36) (some (35, true)) (.k (.fld 6 (.tmp 7))), .mk (some 37) (some (35, true)) (.k (.load [.int .i64] false (.tmp 36))), .mk (some 38) (some (35, true)) (.k (.cmp .lss .i64 (.tmp 37) (.const (.int .i64 0)))), .mk (some 39) none (.k (.pick (.tmp 35) (.tmp 38) (.const (.bool false))))]) (.cond (.tmp 39) .skip (.exit 0))) (.ref 21)
def T72n23 : XC := .seq (.ops [.mk (some 181) none (.k (.load [.int .i64, .int .i64, .int .i64, .int .i64, .int .i64, .int .i64, .int .i64, .slc, .slc, .bool, .int .i64] true (.tmp 7))), .mk (some 182) none (.k (.mov (.tmp 8))), .mk none none (.k (.store 11 (.tmp 4) (.tmp 181))), .mk (some 5) none (.k (.mov (.tmp 182)))]) .ret
def T72n24 : XC := .seq (.seq (.ops [.mk (some 29) none (.k (.mov (.tmp 1))), .mk (some 30) none (.k (.arith .add .i64 (.tmp 29) (.const (.int .i64 1)))), .mk (some 9) none (.k (.mov (.tmp 30)))]) (.blk 0 (.loop (.ref 22)))) (.ref 23)
def T72n25 : XC := .seq (.ops [.mk (some 8) none (.k (.mov (.const (.bool false))))]) (.ref 24)
def T72n26 : XC := .seq (.ops [.mk (some 19) none (.k (.fld 2 (.tmp 6))), .mk (some 20) none (.k (.load [.int .i64] false (.tmp 19))), .mk (some 21) none (.k (.fld 3 (.tmp 6))), .mk (some 22) none (.k (.load [.int .i64] false (.tmp 21))), .mk (some 23) none (.k (.fld 4 (.tmp 6))), .mk (some 24) none (.k (.load [.int .i64] false (.tmp 23))), .mk (some 25) none (.k (.fld 5 (.tmp 6))), .mk (some 26) none (.k (.load [.int .i64] false (.tmp 25))), .mk (some 27) none (.k (.mov (.tmp 1))), .mk (some 28) none (.k (.build [.int .i64 0, .int .i64 0, .int .i64 0, .int .i64 0, .int .i64 0, .int .i64 0, .int .i64 0, .slice none 0 0, .slice none 0 0, .bool false, .int .i64 0] [(0, 1, .tmp 20), (1, 1, .tmp 22), (2, 1, .tmp 24), (3, 1, .tmp 26), (4, 1, .tmp 27), (5, 1, .const (.int .i64 (-1))), (6, 1, .const (.int .i64 (-1)))])), .mk (some 7) none (.k (.alloc 75 [.int .i64 0, .int .i64 0, .int .i64 0, .int .i64 0, .int .i64 0, .int .i64 0, .int .i64 0, .slice none 0 0, .slice none 0 0, .bool false, .int .i64 0])), .mk none none (.k (.store 11 (.tmp 7) (.tmp 28)))]) (.ref 25)
def T72n27 : XC := .seq (.ops [.mk (some 15) none (.k (.mov (.tmp 0))), .mk (some 16) none (.k (.mov (.tmp 1))), .mk (some 17) none (.k (.idx 9 (.tmp 15) (.tmp 16))), .mk (some 18) none (.k (.load [.int .i64, .int .i64, .int .i64, .int .i64, .int .i64, .int .i64, .int .i64, .int .u64, .int .i64] true (.tmp 17))), .mk (some 6) none (.k (.alloc 53 [.int .i64 0, .int .i64 0, .int .i64 0, .int .i64 0, .int .i64 0, .int .i64 0, .int .i64 0, .int .u64 0, .int .i64 0])), .mk none none (.k (.store 9 (.tmp 6) (.tmp 18)))]) (.ref 26)
def T72 : Nat → XC
 | 0 => T72n0
 | 1 => T72n1
 | 2 => T72n2
 | 3 => T72n3
 | 4 => T72n4
 | 5 => T72n5
 | 6 => T72n6
 | 7 => T72n7
 | 8 => T72n8
 | 9 => T72n9
 | 10 => T72n10
 | 11 => T72n11
 | 12 => T72n12
 | 13 => T72n13
 | 14 => T72n14
 | 15 => T72n15
 | 16 => T72n16
 | 17 => T72n17
 | 18 => T72n18
 | 19 => T72n19
 | 20 => T72n20
 | 21 => T72n21
 | 22 => T72n22
 | 23 => T72n23
 | 24 => T72n24
 | 25 => T72n25
 | 26 => T72n26
 | 27 => T72n27
 | _ => .skip
theorem t72n0 : T72 0 = T72n0 := rfl
theorem t72n1 : T72 1 = T72n1 := rfl
theorem t72n2 : T72 2 = T72n2 := rfl
theorem t72n3 : T72 3 = T72n3 := rfl
theorem t72n4 : T72 4 = T72n4 := rfl
theorem t72n5 : T72 5 = T72n5 := rfl
theorem t72n6 : T72 6 = T72n6 := rfl
theorem t72n7 : T72 7 = T72n7 := rfl
theorem t72n8 : T72 8 = T72n8 := rfl
theorem t72n9 : T72 9 = T72n9 := rfl
theorem t72n10 : T72 10 = T72n10 := rfl
theorem t72n11 : T72 11 = T72n11 := rfl
theorem t72n12 : T72 12 = T72n12 := rfl
theorem t72n13 : T72 13 = T72n13 := rfl
theorem t72n14 : T72 14 = T72n14 := rfl
theorem t72n15 : T72 15 = T72n15 := rfl
theorem t72n16 : T72 16 = T72n16 := rfl
theorem t72n17 : T72 17 = T72n17 := rfl
theorem t72n18 : T72 18 = T72n18 := rfl
theorem t72n19 : T72 19 = T72n19 := rfl
theorem t72n20 : T72 20 = T72n20 := rfl
theorem t72n21 : T72 21 = T72n21 := rfl
theorem t72n22 : T72 22 = T72n22 := rfl
theorem t72n23 : T72 23 = T72n23 := rfl
theorem t72n24 : T72 24 = T72n24 := rfl
theorem t72n25 : T72 25 = T72n25 := rfl
theorem t72n26 : T72 26 = T72n26 := rfl
theorem t72n27 : T72 27 = T72n27 := rfl
def X72 : XC := .seq (.ops [.mk (some 4) none (.k (.alloc 75 [.int .i64 0, .int .i64 0, .int .i64 0, .int .i64 0, .int .i64 0, .int .i64 0, .int .i64 0, .slice none 0 0, .slice none 0 0, .bool false, .int .i64 0])), .mk (some 5) none (.k (.mov (.const (.bool false))))]) (.ref 27)
abbrev K72 : List Nat := [0, 1, 4, 5, 6, 7, 8, 9, 10, 11, 12, 13, 14, 39, 47, 100, 110, 122, 133, 159, 167, 174]
theorem n72 : Try.f72.ntmps = 183 := by kernel_rfl
theorem r72 : rvOf Try.prog Try.f72.results.toList = some [RV.cell 4 11 true, RV.tmp 5] := by kernel_rfl
theorem x72 : cmpF Try.prog Try.f72 = some (expand T72 29 X72) := by kernel_rfl
def T88n0 : XC := .seq (.ops [.mk (some 7) none (.k (.mov (.tmp 2))), .mk (some 8) none (.k (.fld 4 (.tmp 4))), .mk (some 9) none (.k (.load [.int .i64] false (.tmp 8))), .mk (some 10) none (.k (.cmp .gtr .i64 (.tmp 7) (.tmp 9))), .mk (some 11) none (.k (.mov (.tmp 10))), .mk (some 12) (some (11, true)) (.k (.mov (.tmp 0))), .mk (some 13) (some (11, true)) (.k (.mov (.tmp 2))), .mk (some 14) (some (11, true)) (.k (.idx 9 (.tmp 12) (.tmp 13))), .mk (some 15) (some (11, true)) (.k (.fld 2 (.tmp 14))), .mk (some 16) (some (11, true)) (.k (.load [.int .i64] false (.tmp 15))), .mk (some 17) (some (11, true)) (.k (.fld 0 (.tmp 4))), .mk (some 18) (some (11, true)) (.k (.load [.int .i64] false (.tmp 17))), .mk (some 19) (some (11, true)) (.k (.cmp .eql .i64 (.tmp 16) (.tmp 18))), .mk (some 20) none (.k (.pick (.tmp 11) (.tmp 19) (.const (.bool false)))), .mk (some 21) none (.k (.mov (.tmp 20))), .mk (some 22) (some (21, true)) (.k (.mov (.tmp 0))), .mk (some 23) (some (21, true)) (.k (.mov (.tmp 2))), .mk (some 24) (some (21, true)) (.k (.idx 9 (.tmp 22) (.tmp 23))), .mk (some 25) (some (21, true)) (.k (.fld 3 (.tmp 24))), .mk (some 26) (some (21, true)) (.k (.load [.int .i64] false (.tmp 25))), .mk (some 27) (some (21, true)) (.k (.fld 1 (.tmp 4))), .mk (some 28) (some (21, true)) (.k (.load [.int .i64] false (.tmp 27))), .mk (some 29) (some (21, true)) (.k (.cmp .eql .i64 (.tmp 26) (.tmp 28))), .mk (some 30) none (.k (.pick (.tmp 21) (.tmp 29) (.const (.bool false)))), .mk (some 31) none (.k (.mov (.tmp 30))), .mk (some 32) (some (31, true)) (.k (.mov (.tmp 0))), .mk (some 33) (some (31, true)) (.k (.mov (.tmp 2))), .mk (some 34) (some (31, true)) (.k (.idx 9 (.tmp 32) (.tmp 33))), .mk (some 35) (some (31, true)) (.k (.fld 4 (.tmp 34))), .mk (some 36) (some (31, true)) (.k (.load [.int .i64] false (.tmp 35))), .mk (some 37) (some (31, true)) (.k (.fld 2 (.tmp 4))), .mk (some 38) (some (31, true)) (.k (.load [.int .i64] false (.tmp 37))), .mk (some 39) (some (31, true)) (.k (.cmp .eql .i64 (.tmp 36) (.tmp 38))), .mk (some 40) none (.k (.pick (.tmp 31) (.tmp 39) (.const (.bool false)))), .mk (some 41) none (.k (.mov (.tmp 40))), .mk (some 42) (some (41, true)) (.k (.mov (.tmp 0))), .mk (some 43) (some (41, true)) (.k (.mov (.tmp 2))), .mk (some 44) (some (41, true)) (.k (.idx 9 (.tmp 42) (.tmp 43))), .mk (some 45) (some (41, true)) (.k (.fld 0 (.tmp 44))), .mk (some 46) (some (41, true)) (.k (.load [.int .i64] false (.tmp 45))), .mk (some 47) (some (41, true)) (.k (.cmp .geq .i64 (.tmp 46) (.const (.int .i64 2)))), .mk (some 48) none (.k (.pick (.tmp 41) (.tmp 47) (.const (.bool false)))), .mk (some 49) none (.k (.mov (.tmp 48))), .mk (some 50) (some (49, true)) (.k (.mov (.tmp 0))), .mk (some 51) (some (49, true)) (.k (.mov (.tmp 2))), .mk (some 52) (some (49, true)) (.k (.idx 9 (.tmp 50) (.tmp 51))), .mk (some 53) (some (49, true)) (.k (.fld 0 (.tmp 52))), .mk (some 54) (some (49, true)) (.k (.load [.int .i64] false (.tmp 53))), .mk (some 55) (some (49, true)) (.k (.cmp .leq .i64 (.tmp 54) (.const (.int .i64 6)))), .mk (some 56) none (.k (.pick (.tmp 49) (.tmp 55) (.const (.bool false)))), .mk (some 6) none (.k (.mov (.tmp 56)))]) .ret
def T88 : Nat → XC
 | 0 => T88n0
 | _ => .skip
theorem t88n0 : T88 0 = T88n0 := rfl
def X88 : XC := .seq (.ops [.mk (some 4) none (.k (.box 75 11 (.tmp 1))), .mk (some 6) none (.k (.mov (.const (.bool false))))]) (.ref 0)
abbrev K88 : List Nat := [0, 1, 2, 4, 6]
theorem n88 : Try.f88.ntmps = 57 := by kernel_rfl
theorem r88 : resT Try.f88.results.toList = some [6] := by kernel_rfl
theorem x88 : cmpF Try.prog Try.f88 = some (expand T88 2 X88) := by kernel_rfl
def T89n0 : XC := .seq (.ops [.mk (some 19) none (.k (.mov (.tmp 5))), .mk (some 4) none (.k (.mov (.tmp 19)))]) .ret
def T89n1 : XC := .ops [.mk (some 10) none (.k (.mov (.tmp 5))), .mk (some 11) none (.k (.arith .add .i64 (.tmp 10) (.const (.int .i64 1)))), .mk (some 5) none (.k (.mov (.tmp 11)))]
def T89n2 : XC := .seq (.blk 1 (.seq (.ops [.mk (some 12) none (.k (.mov (.tmp 0))), .mk (some 13) none (.k (.mov (.tmp 5))), .mk (some 14) none (.k (.idx 2 (.tmp 12) (.tmp 13))), .mk (some 15) none (.k (.fld 0 (.tmp 14))), .mk (some 16) none (.k (.load [.int .i64] false (.tmp 15))), .mk (some 17) none (.k (.mov (.tmp 1))), .mk (some 18) none (.k (.cmp .eql .i64 (.tmp 16) (.tmp 17)))]) (.cond (.tmp 18) (.ref 0) .skip))) (.ref 1)
def T89n3 : XC := .seq (.seq (.ops [.mk (some 6) none (.k (.mov (.tmp 5))), .mk (some 7) none (.k (.mov (.tmp 0))), .mk (some 8) none (.k (.lenS (.tmp 7))), .mk (some 9) none (.k (.cmp .lss .i64 (.tmp 6) (.tmp 8)))]) (.cond (.tmp 9) .skip (.exit 0))) (.ref 2)
def T89n4 : XC := .seq (.ops [.mk (some 4) none (.k (.mov (.const (.int .i64 (-1)))))]) .ret
def T89n5 : XC := .seq (.seq (.ops [.mk (some 5) none (.k (.mov (.const (.int .i64 0))))]) (.blk 0 (.loop (.ref 3)))) (.ref 4)
def T89 : Nat → XC
 | 0 => T89n0
 | 1 => T89n1
 | 2 => T89n2
 | 3 => T89n3
 | 4 => T89n4
 | 5 => T89n5
 | _ => .skip
theorem t89n0 : T89 0 = T89n0 := rfl
theorem t89n1 : T89 1 = T89n1 := rfl
theorem t89n2 : T89 2 = T89n2 := rfl
theorem t89n3 : T89 3 = T89n3 := rfl
theorem t89n4 : T89 4 = T89n4 := rfl
theorem t89n5 : T89 5 = T89n5 := rfl
def X89 : XC := .seq (.ops [.mk (some 4) none (.k (.mov (.const (.int .i64 0))))]) (.ref 5)
abbrev K89 : List Nat := [0, 1, 4, 5, 9, 18]
theorem n89 : Try.f89.ntmps = 20 := by kernel_rfl
theorem r89 : resT Try.f89.results.toList = some [4] := by kernel_rfl
theorem x89 : cmpF Try.prog Try.f89 = some (expand T89 7 X89) := by kernel_rfl
end Go.Proofs.Ytbkpiljencaoeaa
