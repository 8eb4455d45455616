/- Printed by program: the small code of functions, and that it is theirs. -/
import Derived.Test.YtlbiogokpadaoaaGreatDoorSxStill
import Derived.Test.YtlbiogokpadaoaaGreatDoorProg
import Derived.KernelRfl
set_option linter.unusedSimpArgs false
set_option linter.unusedVariables false
set_option linter.unnecessarySimpa false
namespace Go.Proofs.YtlbiogokpadaoaaGreatDoor
open Go Go.Sx
set_option maxRecDepth 100000
def T3n0 : XC := .seq (.ops [.mk (some 2) none (.k (.mov (.const (.bool true))))]) .ret
def T3n1 : XC := .seq (.ops [.mk (some 16) none (.k (.mov (.tmp 0))), .mk (some 17) none (.call 15 [.const (.int .i64 0), .tmp 16]), .mk (some 2) none (.k (.mov (.tmp 17)))]) .ret
def T3n2 : XC := .seq (.seq (.ops [.mk (some 3) none (.k (.mov (.tmp 0))), .mk (some 4) none (.k (.lenS (.tmp 3))), .mk (some 5) none (.k (.cmp .gtr .i64 (.tmp 4) (.const (.int .i64 300)))), .mk (some 6) none (.k (.mov (.tmp 5))), .mk (some 7) (some (6, true)) (.k (.mov (.tmp 0))), .mk (some 8) (some (6, true)) (.k (.lenS (.tmp 7))), .mk (some 9) (some (6, true)) (.k (.cmp .leq .i64 (.tmp 8) (.const (.int .i64 1024)))), .mk (some 10) none (.k (.pick (.tmp 6) (.tmp 9) (.const (.bool false)))), .mk (some 11) none (.k (.mov (.tmp 10))), .mk (some 12) (some (11, false)) (.k (.mov (.tmp 0))), .mk (some 13) (some (11, false)) (.k (.lenS (.tmp 12))), .mk (some 14) (some (11, false)) (.k (.cmp .gtr .i64 (.tmp 13) (.const (.int .i64 1100)))), .mk (some 15) none (.k (.pick (.tmp 11) (.const (.bool true)) (.tmp 14)))]) (.cond (.tmp 15) (.ref 0) .skip)) (.ref 1)
def T3 : Nat → XC
 | 0 => T3n0
 | 1 => T3n1
 | 2 => T3n2
 | _ => .skip
theorem t3n0 : T3 0 = T3n0 := rfl
theorem t3n1 : T3 1 = T3n1 := rfl
theorem t3n2 : T3 2 = T3n2 := rfl
def X3 : XC := .seq (.ops [.mk (some 2) none (.k (.mov (.const (.bool false))))]) (.ref 2)
abbrev K3 : List Nat := [0, 2, 15]
theorem n3 : Tryz.f3.ntmps = 18 := by kernel_rfl
theorem r3 : resT Tryz.f3.results.toList = some [2] := by kernel_rfl
theorem x3 : cmpF Tryz.prog Tryz.f3 = some (expand T3 4 X3) := by kernel_rfl
def T55n0 : XC := .seq (.ops [.mk (some 18) none (.k (.mov (.tmp 5))), .mk (some 2) none (.k (.mov (.const (.slice none 0 0)))), .mk (some 3) none (.k (.mov (.tmp 18)))]) .ret
def T55n1 : XC := .ops [.mk (some 33) none (.k (.mov (.tmp 10))), .mk (some 34) none (.k (.arith .add .i64 (.tmp 33) (.const (.int .i64 1)))), .mk (some 10) none (.k (.mov (.tmp 34)))]
def T55n2 : XC := .seq (.blk 3 (.ops [.mk (some 35) none (.k (.mov (.tmp 6))), .mk (some 36) none (.k (.mov (.tmp 10))), .mk (some 37) none (.k (.mov (.tmp 0))), .mk (some 38) none (.k (.mov (.tmp 10))), .mk (some 39) none (.k (.idx 5 (.tmp 37) (.tmp 38))), .mk (some 40) none (.k (.load [.int .i64, .int .i64, .int .i64, .int .i64, .int .i64] true (.tmp 39))), .mk (some 41) none (.k (.mov (.tmp 10))), .mk (some 42) none (.call 83 [.tmp 9, .tmp 40, .tmp 41]), .mk (some 43) none (.k (.idx 5 (.tmp 35) (.tmp 36))), .mk none none (.k (.store 5 (.tmp 43) (.tmp 42)))])) (.ref 1)
def T55n3 : XC := .seq (.seq (.ops [.mk (some 29) none (.k (.mov (.tmp 10))), .mk (some 30) none (.k (.fld 1 (.tmp 8))), .mk (some 31) none (.k (.load [.int .i64] false (.tmp 30))), .mk (some 32) none (.k (.cmp .lss .i64 (.tmp 29) (.tmp 31)))]) (.cond (.tmp 32) .skip (.exit 2))) (.ref 2)
def T55n4 : XC := .seq (.ops [.mk (some 27) none (.k (.fld 0 (.tmp 8))), .mk (some 28) none (.k (.load [.int .i64] false (.tmp 27))), .mk (some 10) none (.k (.mov (.tmp 28)))]) (.blk 2 (.loop (.ref 3)))
def T55n5 : XC := .seq (.ops [.mk (some 9) none (.k (.alloc 126 [.bool false, .int .u64 0, .bool false, .int .u64 0, .bool false, .int .u64 0, .bool false, .int .u64 0, .bool false, .int .u64 0, .bool false, .int .u64 0, .bool false, .int .u64 0, .bool false, .int .u64 0]))]) (.ref 4)
def T55n6 : XC := .seq (.blk 1 (.seq (.ops [.mk (some 25) none (.k (.idx 3 (.tmp 21) (.tmp 23))), .mk (some 26) none (.k (.load [.int .i64, .int .i64, .slc] true (.tmp 25))), .mk (some 8) none (.k (.alloc 35 [.int .i64 0, .int .i64 0, .slice none 0 0])), .mk none none (.k (.store 3 (.tmp 8) (.tmp 26)))]) (.ref 5))) (.ops [.mk (some 44) none (.k (.arith .add .i64 (.tmp 23) (.const (.int .i64 1)))), .mk (some 23) none (.k (.mov (.tmp 44)))])
def T55n7 : XC := .seq (.cond (.tmp 24) .skip (.exit 0)) (.ref 6)
def T55n8 : XC := .seq (.ops [.mk (some 24) none (.k (.cmp .lss .i64 (.tmp 23) (.tmp 22)))]) (.ref 7)
def T55n9 : XC := .seq (.ops [.mk (some 45) none (.k (.mov (.tmp 6))), .mk (some 2) none (.k (.mov (.tmp 45))), .mk (some 3) none (.k (.mov (.const (.int .i64 0))))]) .ret
def T55n10 : XC := .seq (.seq (.ops [.mk (some 21) none (.k (.mov (.tmp 4))), .mk (some 22) none (.k (.lenS (.tmp 21))), .mk (some 23) none (.k (.mov (.const (.int .i64 0))))]) (.blk 0 (.loop (.ref 8)))) (.ref 9)
def T55n11 : XC := .seq (.ops [.mk (some 19) none (.k (.mov (.tmp 0))), .mk (some 20) none (.call 82 [.tmp 19]), .mk (some 6) none (.k (.mov (.tmp 20)))]) (.ref 10)
def T55n12 : XC := .seq (.seq (.ops [.mk (some 16) none (.k (.mov (.tmp 5))), .mk (some 17) none (.k (.cmp .neq .i64 (.tmp 16) (.const (.int .i64 0))))]) (.cond (.tmp 17) (.ref 0) .skip)) (.ref 11)
def T55n13 : XC := .seq (.ops [.mk (some 12) none (.k (.mov (.tmp 0))), .mk (some 13) none (.call 17 [.tmp 12]), .mk (some 11) none (.k (.mov (.tmp 13))), .mk (some 14) none (.k (.ext (.tmp 11) 0)), .mk (some 15) none (.k (.ext (.tmp 11) 1)), .mk (some 4) none (.k (.mov (.tmp 14))), .mk (some 5) none (.k (.mov (.tmp 15)))]) (.ref 12)
def T55 : Nat → XC
 | 0 => T55n0
 | 1 => T55n1
 | 2 => T55n2
 | 3 => T55n3
 | 4 => T55n4
 | 5 => T55n5
 | 6 => T55n6
 | 7 => T55n7
 | 8 => T55n8
 | 9 => T55n9
 | 10 => T55n10
 | 11 => T55n11
 | 12 => T55n12
 | 13 => T55n13
 | _ => .skip
theorem t55n0 : T55 0 = T55n0 := rfl
theorem t55n1 : T55 1 = T55n1 := rfl
theorem t55n2 : T55 2 = T55n2 := rfl
theorem t55n3 : T55 3 = T55n3 := rfl
theorem t55n4 : T55 4 = T55n4 := rfl
theorem t55n5 : T55 5 = T55n5 := rfl
theorem t55n6 : T55 6 = T55n6 := rfl
theorem t55n7 : T55 7 = T55n7 := rfl
theorem t55n8 : T55 8 = T55n8 := rfl
theorem t55n9 : T55 9 = T55n9 := rfl
theorem t55n10 : T55 10 = T55n10 := rfl
theorem t55n11 : T55 11 = T55n11 := rfl
theorem t55n12 : T55 12 = T55n12 := rfl
theorem t55n13 : T55 13 = T55n13 := rfl
def X55 : XC := .seq (.ops [.mk (some 2) none (.k (.mov (.const (.slice none 0 0)))), .mk (some 3) none (.k (.mov (.const (.int .i64 0))))]) (.ref 13)
abbrev K55 : List Nat := [0, 2, 3, 4, 5, 6, 8, 9, 10, 17, 21, 22, 23, 24, 32]
theorem n55 : Tryz.f55.ntmps = 46 := by kernel_rfl
theorem r55 : resT Tryz.f55.results.toList = some [2, 3] := by kernel_rfl
theorem x55 : cmpF Tryz.prog Tryz.f55 = some (expand T55 15 X55) := by kernel_rfl
def T61n0 : XC := .ops [.mk (some 55) none (.k (.mov (.tmp 13))), .mk (some 56) none (.k (.arith .add .i64 (.tmp 55) (.const (.int .i64 1)))), .mk (some 13) none (.k (.mov (.tmp 56)))]
def T61n1 : XC := .seq (.blk 5 (.ops [.mk (some 57) none (.k (.mov (.tmp 11))), .mk (some 58) none (.k (.mov (.tmp 57))), .mk (some 59) (some (58, true)) (.k (.mov (.tmp 12))), .mk (some 60) (some (58, true)) (.k (.mov (.tmp 13))), .mk (some 61) (some (58, true)) (.k (.idx 1 (.tmp 59) (.tmp 60))), .mk (some 62) (some (58, true)) (.k (.load [.int .i64] false (.tmp 61))), .mk (some 63) (some (58, true)) (.k (.idxA 8 1 (.tmp 7) (.tmp 62))), .mk (some 64) (some (58, true)) (.k (.load [.bool] false (.tmp 63))), .mk (some 65) none (.k (.pick (.tmp 58) (.tmp 64) (.const (.bool false)))), .mk (some 11) none (.k (.mov (.tmp 65)))])) (.ref 0)
def T61n2 : XC := .seq (.seq (.ops [.mk (some 51) none (.k (.mov (.tmp 13))), .mk (some 52) none (.k (.mov (.tmp 12))), .mk (some 53) none (.k (.lenS (.tmp 52))), .mk (some 54) none (.k (.cmp .lss .i64 (.tmp 51) (.tmp 53)))]) (.cond (.tmp 54) .skip (.exit 4))) (.ref 1)
def T61n3 : XC := .ops [.mk (some 78) none (.k (.mov (.tmp 3))), .mk (some 79) none (.k (.mov (.tmp 8))), .mk (some 80) none (.k (.fld 1 (.tmp 14))), .mk (some 81) none (.k (.load [.int .i64] false (.tmp 80))), .mk (some 82) none (.k (.build [.int .i64 0, .int .i64 0, .int .i64 0, .int .i64 0, .int .i64 0] [(0, 1, .const (.int .i64 13)), (4, 1, .tmp 81)])), .mk (some 83) none (.k (.idx 5 (.tmp 78) (.tmp 79))), .mk none none (.k (.store 5 (.tmp 83) (.tmp 82)))]
def T61n4 : XC := .ops [.mk (some 105) none (.k (.fld 1 (.tmp 9))), .mk (some 106) none (.k (.load [.int .i64] false (.tmp 105))), .mk (some 107) none (.k (.idxA 8 1 (.tmp 6) (.tmp 106))), .mk none none (.k (.store 1 (.tmp 107) (.const (.int .u64 0))))]
def T61n5 : XC := .seq (.ops [.mk (some 102) none (.k (.fld 1 (.tmp 9))), .mk (some 103) none (.k (.load [.int .i64] false (.tmp 102))), .mk (some 104) none (.k (.idxA 8 1 (.tmp 7) (.tmp 103))), .mk none none (.k (.store 1 (.tmp 104) (.const (.bool false))))]) (.ref 4)
def T61n6 : XC := .ops [.mk (some 139) none (.k (.mov (.tmp 3))), .mk (some 140) none (.k (.mov (.tmp 8))), .mk (some 141) none (.k (.fld 1 (.tmp 9))), .mk (some 142) none (.k (.load [.int .i64] false (.tmp 141))), .mk (some 143) none (.k (.fld 3 (.tmp 14))), .mk (some 144) none (.k (.load [.int .u64] false (.tmp 143))), .mk (some 145) none (.k (.conv .i64 (.tmp 144))), .mk (some 146) none (.k (.build [.int .i64 0, .int .i64 0, .int .i64 0, .int .i64 0, .int .i64 0] [(0, 1, .const (.int .i64 2)), (1, 1, .tmp 142), (4, 1, .tmp 145)])), .mk (some 147) none (.k (.idx 5 (.tmp 139) (.tmp 140))), .mk none none (.k (.store 5 (.tmp 147) (.tmp 146)))]
def T61n7 : XC := .seq (.ops [.mk (some 133) none (.k (.fld 0 (.tmp 9))), .mk (some 134) none (.k (.load [.int .i64] false (.tmp 133))), .mk (some 135) none (.k (.cmp .neq .i64 (.tmp 134) (.const (.int .i64 2)))), .mk (some 136) none (.k (.mov (.tmp 135))), .mk (some 137) (some (136, true)) (.k (.mov (.tmp 16))), .mk (some 138) none (.k (.pick (.tmp 136) (.tmp 137) (.const (.bool false))))]) (.cond (.tmp 138) (.ref 6) .skip)
def T61n8 : XC := .seq (.ops [.mk (some 125) none (.k (.fld 3 (.tmp 14))), .mk (some 126) none (.k (.load [.int .u64] false (.tmp 125))), .mk (some 127) none (.k (.cmp .leq .u64 (.tmp 126) (.const (.int .u64 2147483647)))), .mk (some 128) none (.k (.mov (.tmp 127))), .mk (some 129) (some (128, false)) (.k (.fld 3 (.tmp 14))), .mk (some 130) (some (128, false)) (.k (.load [.int .u64] false (.tmp 129))), .mk (some 131) (some (128, false)) (.k (.cmp .geq .u64 (.tmp 130) (.const (.int .u64 18446744071562067968)))), .mk (some 132) none (.k (.pick (.tmp 128) (.const (.bool true)) (.tmp 131))), .mk (some 16) none (.k (.mov (.tmp 132)))]) (.ref 7)
def T61n9 : XC := .seq (.ops [.mk (some 120) none (.k (.fld 1 (.tmp 9))), .mk (some 121) none (.k (.load [.int .i64] false (.tmp 120))), .mk (some 122) none (.k (.fld 3 (.tmp 14))), .mk (some 123) none (.k (.load [.int .u64] false (.tmp 122))), .mk (some 124) none (.k (.idxA 8 1 (.tmp 6) (.tmp 121))), .mk none none (.k (.store 1 (.tmp 124) (.tmp 123)))]) (.ref 8)
def T61n10 : XC := .seq (.ops [.mk (some 117) none (.k (.fld 1 (.tmp 9))), .mk (some 118) none (.k (.load [.int .i64] false (.tmp 117))), .mk (some 119) none (.k (.idxA 8 1 (.tmp 7) (.tmp 118))), .mk none none (.k (.store 1 (.tmp 119) (.const (.bool true))))]) (.ref 9)
def T61n11 : XC := .seq (.ops [.mk (some 109) none (.k (.fld 0 (.tmp 9))), .mk (some 110) none (.k (.load [.int .i64] false (.tmp 109))), .mk (some 111) none (.k (.cmp .geq .i64 (.tmp 110) (.const (.int .i64 2)))), .mk (some 112) none (.k (.mov (.tmp 111))), .mk (some 113) (some (112, true)) (.k (.fld 0 (.tmp 9))), .mk (some 114) (some (112, true)) (.k (.load [.int .i64] false (.tmp 113))), .mk (some 115) (some (112, true)) (.k (.cmp .leq .i64 (.tmp 114) (.const (.int .i64 10)))), .mk (some 116) none (.k (.pick (.tmp 112) (.tmp 115) (.const (.bool false)))), .mk (some 108) none (.k (.mov (.tmp 116)))]) (.cond (.tmp 108) (.ref 10) .skip)
def T61n12 : XC := .seq (.ops [.mk (some 85) none (.k (.fld 0 (.tmp 9))), .mk (some 86) none (.k (.load [.int .i64] false (.tmp 85))), .mk (some 87) none (.k (.cmp .eql .i64 (.tmp 86) (.const (.int .i64 11)))), .mk (some 88) none (.k (.mov (.tmp 87))), .mk (some 89) (some (88, false)) (.k (.fld 0 (.tmp 9))), .mk (some 90) (some (88, false)) (.k (.load [.int .i64] false (.tmp 89))), .mk (some 91) (some (88, false)) (.k (.cmp .geq .i64 (.tmp 90) (.const (.int .i64 2)))), .mk (some 92) (some (88, false)) (.k (.mov (.tmp 91))), .mk (some 93) (some (92, true)) (.k (.fld 0 (.tmp 9))), .mk (some 94) (some (92, true)) (.k (.load [.int .i64] false (.tmp 93))), .mk (some 95) (some (92, true)) (.k (.cmp .leq .i64 (.tmp 94) (.const (.int .i64 10)))), .mk (some 96) (some (88, false)) (.k (.pick (.tmp 92) (.tmp 95) (.const (.bool false)))), .mk (some 97) (some (88, false)) (.k (.mov (.tmp 96))), .mk (some 98) (some (97, true)) (.k (.mov (.tmp 11))), .mk (some 99) (some (97, true)) (.k (.not (.tmp 98))), .mk (some 100) (some (88, false)) (.k (.pick (.tmp 97) (.tmp 99) (.const (.bool false)))), .mk (some 101) none (.k (.pick (.tmp 88) (.const (.bool true)) (.tmp 100))), .mk (some 84) none (.k (.mov (.tmp 101)))]) (.cond (.tmp 84) (.ref 5) (.ref 11))
def T61n13 : XC := .blk 6 (.seq (.ops [.mk (some 73) none (.k (.mov (.tmp 15))), .mk (some 74) none (.k (.cmp .eql .i64 (.tmp 73) (.const (.int .i64 2)))), .mk (some 75) none (.k (.mov (.tmp 74))), .mk (some 76) (some (75, true)) (.k (.mov (.tmp 11))), .mk (some 77) none (.k (.pick (.tmp 75) (.tmp 76) (.const (.bool false)))), .mk (some 72) none (.k (.mov (.tmp 77)))]) (.cond (.tmp 72) (.ref 3) (.ref 12)))
def T61n14 : XC := .seq (.ops [.mk (some 70) none (.k (.load [.int .i64, .int .i64, .int .i64, .int .i64, .int .i64] true (.tmp 9))), .mk (some 71) none (.call 93 [.tmp 70]), .mk (some 15) none (.k (.mov (.tmp 71)))]) (.ref 13)
def T61n15 : XC := .seq (.ops [.mk (some 66) none (.k (.load [.int .i64, .int .i64, .int .i64, .int .i64, .int .i64] true (.tmp 9))), .mk (some 67) none (.k (.load [.int .u64, .int .u64, .int .u64, .int .u64, .int .u64, .int .u64, .int .u64, .int .u64] true (.tmp 6))), .mk (some 68) none (.k (.mov (.tmp 8))), .mk (some 69) none (.call 92 [.tmp 66, .tmp 67, .tmp 68]), .mk (some 14) none (.k (.alloc 54 [.int .i64 0, .int .i64 0, .int .i64 0, .int .u64 0, .int .u64 0])), .mk none none (.k (.store 5 (.tmp 14) (.tmp 69)))]) (.ref 14)
def T61n16 : XC := .seq (.seq (.ops [.mk (some 13) none (.k (.mov (.const (.int .i64 0))))]) (.blk 4 (.loop (.ref 2)))) (.ref 15)
def T61n17 : XC := .seq (.ops [.mk (some 49) none (.k (.load [.int .i64, .int .i64, .int .i64, .int .i64, .int .i64] true (.tmp 9))), .mk (some 50) none (.call 91 [.tmp 49]), .mk (some 12) none (.k (.mov (.tmp 50)))]) (.ref 16)
def T61n18 : XC := .seq (.ops [.mk (some 11) none (.k (.mov (.const (.bool true))))]) (.ref 17)
def T61n19 : XC := .seq (.seq (.ops [.mk (some 47) none (.k (.mov (.tmp 10))), .mk (some 48) none (.k (.not (.tmp 47)))]) (.cond (.tmp 48) (.exit 3) .skip)) (.ref 18)
def T61n20 : XC := .seq (.ops [.mk (some 45) none (.k (.load [.int .i64, .int .i64, .int .i64, .int .i64, .int .i64] true (.tmp 9))), .mk (some 46) none (.call 90 [.tmp 45]), .mk (some 10) none (.k (.mov (.tmp 46)))]) (.ref 19)
def T61n21 : XC := .ops [.mk (some 39) none (.k (.mov (.tmp 8))), .mk (some 40) none (.k (.arith .add .i64 (.tmp 39) (.const (.int .i64 1)))), .mk (some 8) none (.k (.mov (.tmp 40)))]
def T61n22 : XC := .seq (.blk 3 (.seq (.ops [.mk (some 41) none (.k (.mov (.tmp 0))), .mk (some 42) none (.k (.mov (.tmp 8))), .mk (some 43) none (.k (.idx 5 (.tmp 41) (.tmp 42))), .mk (some 44) none (.k (.load [.int .i64, .int .i64, .int .i64, .int .i64, .int .i64] true (.tmp 43))), .mk (some 9) none (.k (.alloc 41 [.int .i64 0, .int .i64 0, .int .i64 0, .int .i64 0, .int .i64 0])), .mk none none (.k (.store 5 (.tmp 9) (.tmp 44)))]) (.ref 20))) (.ref 21)
def T61n23 : XC := .seq (.seq (.ops [.mk (some 32) none (.k (.mov (.tmp 8))), .mk (some 33) none (.k (.mov (.tmp 4))), .mk (some 34) none (.k (.mov (.tmp 5))), .mk (some 35) none (.k (.idx 3 (.tmp 33) (.tmp 34))), .mk (some 36) none (.k (.fld 1 (.tmp 35))), .mk (some 37) none (.k (.load [.int .i64] false (.tmp 36))), .mk (some 38) none (.k (.cmp .lss .i64 (.tmp 32) (.tmp 37)))]) (.cond (.tmp 38) .skip (.exit 2))) (.ref 22)
def T61n24 : XC := .seq (.ops [.mk (some 27) none (.k (.mov (.tmp 4))), .mk (some 28) none (.k (.mov (.tmp 5))), .mk (some 29) none (.k (.idx 3 (.tmp 27) (.tmp 28))), .mk (some 30) none (.k (.fld 0 (.tmp 29))), .mk (some 31) none (.k (.load [.int .i64] false (.tmp 30))), .mk (some 8) none (.k (.mov (.tmp 31)))]) (.blk 2 (.loop (.ref 23)))
def T61n25 : XC := .seq (.ops [.mk (some 7) none (.k (.alloc 135 [.bool false, .bool false, .bool false, .bool false, .bool false, .bool false, .bool false, .bool false]))]) (.ref 24)
def T61n26 : XC := .ops [.mk (some 25) none (.k (.mov (.tmp 5))), .mk (some 26) none (.k (.arith .add .i64 (.tmp 25) (.const (.int .i64 1)))), .mk (some 5) none (.k (.mov (.tmp 26)))]
def T61n27 : XC := .seq (.blk 1 (.seq (.ops [.mk (some 6) none (.k (.alloc 50 [.int .u64 0, .int .u64 0, .int .u64 0, .int .u64 0, .int .u64 0, .int .u64 0, .int .u64 0, .int .u64 0]))]) (.ref 25))) (.ref 26)
def T61n28 : XC := .seq (.seq (.ops [.mk (some 21) none (.k (.mov (.tmp 5))), .mk (some 22) none (.k (.mov (.tmp 4))), .mk (some 23) none (.k (.lenS (.tmp 22))), .mk (some 24) none (.k (.cmp .lss .i64 (.tmp 21) (.tmp 23)))]) (.cond (.tmp 24) .skip (.exit 0))) (.ref 27)
def T61n29 : XC := .seq (.ops [.mk (some 148) none (.k (.mov (.tmp 3))), .mk (some 2) none (.k (.mov (.tmp 148)))]) .ret
def T61n30 : XC := .seq (.seq (.ops [.mk (some 5) none (.k (.mov (.const (.int .i64 0))))]) (.blk 0 (.loop (.ref 28)))) (.ref 29)
def T61n31 : XC := .seq (.ops [.mk (some 19) none (.k (.mov (.tmp 0))), .mk (some 20) none (.call 89 [.tmp 19]), .mk (some 4) none (.k (.mov (.tmp 20)))]) (.ref 30)
def T61n32 : XC := .seq (.ops [.mk (some 17) none (.k (.mov (.tmp 0))), .mk (some 18) none (.call 29 [.tmp 17]), .mk (some 3) none (.k (.mov (.tmp 18)))]) (.ref 31)
def T61 : Nat → XC
 | 0 => T61n0
 | 1 => T61n1
 | 2 => T61n2
 | 3 => T61n3
 | 4 => T61n4
 | 5 => T61n5
 | 6 => T61n6
 | 7 => T61n7
 | 8 => T61n8
 | 9 => T61n9
 | 10 => T61n10
 | 11 => T61n11
 | 12 => T61n12
 | 13 => T61n13
 | 14 => T61n14
 | 15 => T61n15
 | 16 => T61n16
 | 17 => T61n17
 | 18 => T61n18
 | 19 => T61n19
 | 20 => T61n20
 | 21 => T61n21
 | 22 => T61n22
 | 23 => T61n23
 | 24 => T61n24
 | 25 => T61n25
 | 26 => T61n26
 | 27 => T61n27
 | 28 => T61n28
 | 29 => T61n29
 | 30 => T61n30
 | 31 => T61n31
 | 32 => T61n32
 | _ => .skip
theorem t61n0 : T61 0 = T61n0 := rfl
theorem t61n1 : T61 1 = T61n1 := rfl
theorem t61n2 : T61 2 = T61n2 := rfl
theorem t61n3 : T61 3 = T61n3 := rfl
theorem t61n4 : T61 4 = T61n4 := rfl
theorem t61n5 : T61 5 = T61n5 := rfl
theorem t61n6 : T61 6 = T61n6 := rfl
theorem t61n7 : T61 7 = T61n7 := rfl
theorem t61n8 : T61 8 = T61n8 := rfl
theorem t61n9 : T61 9 = T61n9 := rfl
theorem t61n10 : T61 10 = T61n10 := rfl
theorem t61n11 : T61 11 = T61n11 := rfl
theorem t61n12 : T61 12 = T61n12 := rfl
theorem t61n13 : T61 13 = T61n13 := rfl
theorem t61n14 : T61 14 = T61n14 := rfl
theorem t61n15 : T61 15 = T61n15 := rfl
theorem t61n16 : T61 16 = T61n16 := rfl
theorem t61n17 : T61 17 = T61n17 := rfl
theorem t61n18 : T61 18 = T61n18 := rfl
theorem t61n19 : T61 19 = T61n19 := rfl
theorem t61n20 : T61 20 = T61n20 := rfl
theorem t61n21 : T61 21 = T61n21 := rfl
theorem t61n22 : T61 22 = T61n22 := rfl
theorem t61n23 : T61 23 = T61n23 := rfl
theorem t61n24 : T61 24 = T61n24 := rfl
theorem t61n25 : T61 25 = T61n25 := rfl
theorem t61n26 : T61 26 = T61n26 := rfl
theorem t61n27 : T61 27 = T61n27 := rfl
theorem t61n28 : T61 28 = T61n28 := rfl
theorem t61n29 : T61 29 = T61n29 := rfl
theorem t61n30 : T61 30 = T61n30 := rfl
theorem t61n31 : T61 31 = T61n31 := rfl
theorem t61n32 : T61 32 = T61n32 := rfl
def X61 : XC := .seq (.ops [.mk (some 2) none (.k (.mov (.const (.slice none 0 0))))]) (.ref 32)
abbrev K61 : List Nat := [0, 2, 3, 4, 5, 6, 7, 8, 9, 10, 11, 12, 13, 14, 15, 16, 24, 38, 48, 54, 72, 84, 108, 138]
theorem n61 : Tryz.f61.ntmps = 149 := by kernel_rfl
theorem r61 : resT Tryz.f61.results.toList = some [2] := by kernel_rfl
theorem x61 : cmpF Tryz.prog Tryz.f61 = some (expand T61 34 X61) := by kernel_rfl
def T83n0 : XC := .seq (.ops [.mk (some 15) none (.k (.load [.int .i64, .int .i64, .int .i64, .int .i64, .int .i64] true (.tmp 4))), .mk none none (.k (.store 5 (.tmp 6) (.tmp 15)))]) .ret
def T83n1 : XC := .seq (.ops [.mk (some 38) none (.k (.load [.int .i64, .int .i64, .int .i64, .int .i64, .int .i64] true (.tmp 4))), .mk none none (.k (.store 5 (.tmp 6) (.tmp 38)))]) .ret
def T83n2 : XC := .seq (.ops [.mk (some 40) none (.k (.mov (.tmp 0))), .mk (some 41) none (.k (.nilc (.tmp 40))), .mk (some 44) none (.k (.mov (.tmp 2))), .mk (some 39) none (.k (.load [.int .i64, .int .i64, .int .i64, .int .i64, .int .i64] true (.tmp 4))), .mk (some 42) none (.k (.load [.bool, .int .u64, .bool, .int .u64, .bool, .int .u64, .bool, .int .u64, .bool, .int .u64, .bool, .int .u64, .bool, .int .u64, .bool, .int .u64] true (.tmp 41))), .mk (some 43) none (.call 117 [.tmp 42]), .mk none none (.still 39 (.load [.int .i64, .int .i64, .int .i64, .int .i64, .int .i64] true (.tmp 4))), .mk (some 45) none (.call 24 [.tmp 39, .tmp 43, .tmp 44]), .mk (some 46) none (.k (.fldv 1 1 false (.tmp 45))), .mk (some 47) none (.k (.build [.int .i64 0, .int .i64 0, .int .i64 0, .int .i64 0, .int .i64 0] [(0, 1, .const (.int .i64 13)), (4, 1, .tmp 46)])), .mk none none (.k (.store 5 (.tmp 6) (.tmp 47)))]) .ret
def T83n3 : XC := .seq (.seq (.ops [.mk (some 28) none (.k (.mov (.tmp 0))), .mk (some 29) none (.k (.nilc (.tmp 28))), .mk (some 30) none (.k (.load [.bool, .int .u64, .bool, .int .u64, .bool, .int .u64, .bool, .int .u64, .bool, .int .u64, .bool, .int .u64, .bool, .int .u64, .bool, .int .u64] true (.tmp 29))), .mk (some 31) none (.k (.fld 1 (.tmp 4))), .mk (some 32) none (.k (.load [.int .i64] false (.tmp 31))), .mk (some 33) none (.k (.fld 2 (.tmp 4))), .mk (some 34) none (.k (.load [.int .i64] false (.tmp 33))), .mk (some 35) none (.k (.buildS 3 2 1 [.int .i64 0] [(0, .tmp 32), (1, .tmp 34)])), .mk (some 36) none (.call 116 [.tmp 30, .tmp 35]), .mk (some 37) none (.k (.not (.tmp 36)))]) (.cond (.tmp 37) (.ref 1) .skip)) (.ref 2)
def T83n4 : XC := .seq (.ops [.mk (some 58) none (.k (.load [.int .i64, .int .i64, .int .i64, .int .i64, .int .i64] true (.tmp 4))), .mk none none (.k (.store 5 (.tmp 6) (.tmp 58)))]) .ret
def T83n5 : XC := .seq (.ops [.mk (some 52) none (.k (.mov (.tmp 0))), .mk (some 53) none (.k (.fld 1 (.tmp 4))), .mk (some 54) none (.k (.load [.int .i64] false (.tmp 53))), .mk (some 55) none (.k (.build [.bool false, .int .u64 0] [])), .mk (some 56) none (.k (.nilc (.tmp 52))), .mk (some 57) none (.k (.idxA 8 2 (.tmp 56) (.tmp 54))), .mk none none (.k (.store 2 (.tmp 57) (.tmp 55)))]) (.ref 4)
def T83n6 : XC := .ops [.mk (some 67) none (.k (.mov (.tmp 9))), .mk (some 68) none (.k (.sub 1 (.tmp 67) none (some (.const (.int .i64 1))))), .mk (some 9) none (.k (.mov (.tmp 68)))]
def T83n7 : XC := .seq (.ops [.mk (some 78) none (.k (.load [.int .i64, .int .i64, .int .i64, .int .i64, .int .i64] true (.tmp 4))), .mk none none (.k (.store 5 (.tmp 6) (.tmp 78)))]) .ret
def T83n8 : XC := .seq (.ops [.mk (some 70) none (.k (.fld 0 (.tmp 4))), .mk (some 71) none (.k (.load [.int .i64] false (.tmp 70))), .mk (some 72) none (.k (.cmp .lss .i64 (.tmp 71) (.const (.int .i64 2)))), .mk (some 73) none (.k (.mov (.tmp 72))), .mk (some 74) (some (73, false)) (.k (.fld 0 (.tmp 4))), .mk (some 75) (some (73, false)) (.k (.load [.int .i64] false (.tmp 74))), .mk (some 76) (some (73, false)) (.k (.cmp .gtr .i64 (.tmp 75) (.const (.int .i64 10)))), .mk (some 77) none (.k (.pick (.tmp 73) (.const (.bool true)) (.tmp 76))), .mk (some 69) none (.k (.mov (.tmp 77)))]) (.cond (.tmp 69) (.ref 7) .skip)
def T83n9 : XC := .seq (.ops [.mk (some 64) none (.k (.fld 0 (.tmp 4))), .mk (some 65) none (.k (.load [.int .i64] false (.tmp 64))), .mk (some 66) none (.k (.cmp .eql .i64 (.tmp 65) (.const (.int .i64 3)))), .mk (some 63) none (.k (.mov (.tmp 66)))]) (.cond (.tmp 63) (.ref 6) (.ref 8))
def T83n10 : XC := .cond (.tmp 59) (.ops [.mk (some 9) none (.k (.mov (.const (.slice none 0 0))))]) (.ref 9)
def T83n11 : XC := .seq (.ops [.mk (some 60) none (.k (.fld 0 (.tmp 4))), .mk (some 61) none (.k (.load [.int .i64] false (.tmp 60))), .mk (some 62) none (.k (.cmp .eql .i64 (.tmp 61) (.const (.int .i64 2)))), .mk (some 59) none (.k (.mov (.tmp 62)))]) (.ref 10)
def T83n12 : XC := .seq (.ops [.mk (some 49) none (.k (.fld 0 (.tmp 4))), .mk (some 50) none (.k (.load [.int .i64] false (.tmp 49))), .mk (some 51) none (.k (.cmp .eql .i64 (.tmp 50) (.const (.int .i64 11)))), .mk (some 48) none (.k (.mov (.tmp 51)))]) (.cond (.tmp 48) (.ref 5) (.ref 11))
def T83n13 : XC := .seq (.ops [.mk (some 91) none (.k (.load [.int .i64, .int .i64, .int .i64, .int .i64, .int .i64] true (.tmp 4))), .mk none none (.k (.store 5 (.tmp 6) (.tmp 91)))]) .ret
def T83n14 : XC := .seq (.ops [.mk (some 85) none (.k (.mov (.tmp 0))), .mk (some 86) none (.k (.fld 1 (.tmp 4))), .mk (some 87) none (.k (.load [.int .i64] false (.tmp 86))), .mk (some 88) none (.k (.build [.bool false, .int .u64 0] [])), .mk (some 89) none (.k (.nilc (.tmp 85))), .mk (some 90) none (.k (.idxA 8 2 (.tmp 89) (.tmp 87))), .mk none none (.k (.store 2 (.tmp 90) (.tmp 88)))]) (.ref 13)
def T83n15 : XC := .seq (.ops [.mk (some 120) none (.k (.fld 1 (.tmp 4))), .mk (some 121) none (.k (.load [.int .i64] false (.tmp 120))), .mk (some 122) none (.k (.mov (.tmp 11))), .mk (some 123) none (.k (.build [.int .i64 0, .int .i64 0, .int .i64 0, .int .i64 0, .int .i64 0] [(0, 1, .const (.int .i64 2)), (1, 1, .tmp 121), (4, 1, .tmp 122)])), .mk none none (.k (.store 5 (.tmp 6) (.tmp 123)))]) .ret
def T83n16 : XC := .seq (.ops [.mk (some 109) none (.k (.fld 0 (.tmp 4))), .mk (some 110) none (.k (.load [.int .i64] false (.tmp 109))), .mk (some 111) none (.k (.cmp .neq .i64 (.tmp 110) (.const (.int .i64 2)))), .mk (some 112) none (.k (.mov (.tmp 111))), .mk (some 113) (some (112, true)) (.k (.mov (.tmp 11))), .mk (some 114) (some (112, true)) (.k (.cmp .geq .i64 (.tmp 113) (.const (.int .i64 (-2147483648))))), .mk (some 115) none (.k (.pick (.tmp 112) (.tmp 114) (.const (.bool false)))), .mk (some 116) none (.k (.mov (.tmp 115))), .mk (some 117) (some (116, true)) (.k (.mov (.tmp 11))), .mk (some 118) (some (116, true)) (.k (.cmp .leq .i64 (.tmp 117) (.const (.int .i64 2147483647)))), .mk (some 119) none (.k (.pick (.tmp 116) (.tmp 118) (.const (.bool false))))]) (.cond (.tmp 119) (.ref 15) .skip)
def T83n17 : XC := .seq (.ops [.mk (some 124) none (.k (.load [.int .i64, .int .i64, .int .i64, .int .i64, .int .i64] true (.tmp 4))), .mk none none (.k (.store 5 (.tmp 6) (.tmp 124)))]) .ret
def T83n18 : XC := .seq (.seq (.ops [.mk (some 107) none (.k (.mov (.tmp 10))), .mk (some 108) none (.k (.conv .i64 (.tmp 107))), .mk (some 11) none (.k (.mov (.tmp 108)))]) (.ref 16)) (.ref 17)
def T83n19 : XC := .seq (.ops [.mk (some 100) none (.k (.mov (.tmp 0))), .mk (some 101) none (.k (.fld 1 (.tmp 4))), .mk (some 102) none (.k (.load [.int .i64] false (.tmp 101))), .mk (some 103) none (.k (.mov (.tmp 10))), .mk (some 104) none (.k (.build [.bool false, .int .u64 0] [(0, 1, .const (.bool true)), (1, 1, .tmp 103)])), .mk (some 105) none (.k (.nilc (.tmp 100))), .mk (some 106) none (.k (.idxA 8 2 (.tmp 105) (.tmp 102))), .mk none none (.k (.store 2 (.tmp 106) (.tmp 104)))]) (.ref 18)
def T83n20 : XC := .seq (.ops [.mk (some 93) none (.k (.mov (.tmp 0))), .mk (some 94) none (.k (.nilc (.tmp 93))), .mk (some 97) none (.k (.mov (.tmp 2))), .mk (some 92) none (.k (.load [.int .i64, .int .i64, .int .i64, .int .i64, .int .i64] true (.tmp 4))), .mk (some 95) none (.k (.load [.bool, .int .u64, .bool, .int .u64, .bool, .int .u64, .bool, .int .u64, .bool, .int .u64, .bool, .int .u64, .bool, .int .u64, .bool, .int .u64] true (.tmp 94))), .mk (some 96) none (.call 117 [.tmp 95]), .mk none none (.still 92 (.load [.int .i64, .int .i64, .int .i64, .int .i64, .int .i64] true (.tmp 4))), .mk (some 98) none (.call 24 [.tmp 92, .tmp 96, .tmp 97]), .mk (some 99) none (.k (.fldv 3 1 false (.tmp 98))), .mk (some 10) none (.k (.mov (.tmp 99)))]) (.ref 19)
def T83n21 : XC := .seq (.seq (.ops [.mk (some 79) none (.k (.mov (.tmp 0))), .mk (some 80) none (.k (.nilc (.tmp 79))), .mk (some 81) none (.k (.load [.bool, .int .u64, .bool, .int .u64, .bool, .int .u64, .bool, .int .u64, .bool, .int .u64, .bool, .int .u64, .bool, .int .u64, .bool, .int .u64] true (.tmp 80))), .mk (some 82) none (.k (.mov (.tmp 9))), .mk (some 83) none (.call 116 [.tmp 81, .tmp 82]), .mk (some 84) none (.k (.not (.tmp 83)))]) (.cond (.tmp 84) (.ref 14) .skip)) (.ref 20)
def T83n22 : XC := .seq (.blk 0 (.seq (.ops [.mk (some 27) none (.k (.mov (.tmp 8))), .mk (some 26) none (.k (.mov (.tmp 27)))]) (.cond (.tmp 26) (.ref 3) (.ref 12)))) (.ref 21)
def T83n23 : XC := .seq (.ops [.mk (some 21) none (.k (.fld 2 (.tmp 4))), .mk (some 22) none (.k (.load [.int .i64] false (.tmp 21))), .mk (some 23) none (.k (.fld 3 (.tmp 4))), .mk (some 24) none (.k (.load [.int .i64] false (.tmp 23))), .mk (some 25) none (.k (.buildS 3 2 1 [.int .i64 0] [(0, .tmp 22), (1, .tmp 24)])), .mk (some 9) none (.k (.mov (.tmp 25)))]) (.ref 22)
def T83n24 : XC := .seq (.ops [.mk (some 17) none (.k (.load [.int .i64, .int .i64, .int .i64, .int .i64, .int .i64] true (.tmp 4))), .mk (some 18) none (.call 84 [.tmp 17]), .mk (some 16) none (.k (.mov (.tmp 18))), .mk (some 19) none (.k (.ext (.tmp 16) 0)), .mk (some 20) none (.k (.ext (.tmp 16) 1)), .mk (some 7) none (.k (.mov (.tmp 19))), .mk (some 8) none (.k (.mov (.tmp 20)))]) (.ref 23)
def T83n25 : XC := .seq (.seq (.ops [.mk (some 12) none (.k (.load [.int .i64, .int .i64, .int .i64, .int .i64, .int .i64] true (.tmp 4))), .mk (some 13) none (.call 21 [.tmp 12]), .mk (some 14) none (.k (.not (.tmp 13)))]) (.cond (.tmp 14) (.ref 0) .skip)) (.ref 24)
def T83 : Nat → XC
 | 0 => T83n0
 | 1 => T83n1
 | 2 => T83n2
 | 3 => T83n3
 | 4 => T83n4
 | 5 => T83n5
 | 6 => T83n6
 | 7 => T83n7
 | 8 => T83n8
 | 9 => T83n9
 | 10 => T83n10
 | 11 => T83n11
 | 12 => T83n12
 | 13 => T83n13
 | 14 => T83n14
 | 15 => T83n15
 | 16 => T83n16
 | 17 => T83n17
 | 18 => T83n18
 | 19 => T83n19
 | 20 => T83n20
 | 21 => T83n21
 | 22 => T83n22
 | 23 => T83n23
 | 24 => T83n24
 | 25 => T83n25
 | _ => .skip
theorem t83n0 : T83 0 = T83n0 := rfl
theorem t83n1 : T83 1 = T83n1 := rfl
theorem t83n2 : T83 2 = T83n2 := rfl
theorem t83n3 : T83 3 = T83n3 := rfl
theorem t83n4 : T83 4 = T83n4 := rfl
theorem t83n5 : T83 5 = T83n5 := rfl
theorem t83n6 : T83 6 = T83n6 := rfl
theorem t83n7 : T83 7 = T83n7 := rfl
theorem t83n8 : T83 8 = T83n8 := rfl
theorem t83n9 : T83 9 = T83n9 := rfl
theorem t83n10 : T83 10 = T83n10 := rfl
theorem t83n11 : T83 11 = T83n11 := rfl
theorem t83n12 : T83 12 = T83n12 := rfl
theorem t83n13 : T83 13 = T83n13 := rfl
theorem t83n14 : T83 14 = T83n14 := rfl
theorem t83n15 : T83 15 = T83n15 := rfl
theorem t83n16 : T83 16 = T83n16 := rfl
theorem t83n17 : T83 17 = T83n17 := rfl
theorem t83n18 : T83 18 = T83n18 := rfl
theorem t83n19 : T83 19 = T83n19 := rfl
theorem t83n20 : T83 20 = T83n20 := rfl
theorem t83n21 : T83 21 = T83n21 := rfl
theorem t83n22 : T83 22 = T83n22 := rfl
theorem t83n23 : T83 23 = T83n23 := rfl
theorem t83n24 : T83 24 = T83n24 := rfl
theorem t83n25 : T83 25 = T83n25 := rfl
def X83 : XC := .seq (.ops [.mk (some 4) none (.k (.box 41 5 (.tmp 1))), .mk (some 6) none (.k (.alloc 41 [.int .i64 0, .int .i64 0, .int .i64 0, .int .i64 0, .int .i64 0]))]) (.ref 25)
abbrev K83 : List Nat := [0, 1, 2, 4, 6, 8, 9, 10, 11, 14, 26, 37, 48, 59, 63, 69, 84, 119]
theorem n83 : Tryz.f83.ntmps = 125 := by kernel_rfl
theorem r83 : rvOf Tryz.prog Tryz.f83.results.toList = some [RV.cell 6 5 true] := by kernel_rfl
theorem x83 : cmpF Tryz.prog Tryz.f83 = some (expand T83 27 X83) := by kernel_rfl
def T116n0 : XC := .seq (.ops [.mk (some 5) none (.k (.mov (.tmp 1))), .mk (some 6) none (.k (.mkfn (.func 145) [] [.tmp 2])), .mk (some 7) none (.call 144 [.tmp 5, .tmp 6]), .mk (some 8) none (.k (.not (.tmp 7))), .mk (some 4) none (.k (.mov (.tmp 8)))]) .ret
def T116 : Nat → XC
 | 0 => T116n0
 | _ => .skip
theorem t116n0 : T116 0 = T116n0 := rfl
def X116 : XC := .seq (.ops [.mk (some 2) none (.k (.box 126 16 (.tmp 0))), .mk (some 4) none (.k (.mov (.const (.bool false))))]) (.ref 0)
abbrev K116 : List Nat := [0, 1, 2, 4]
theorem n116 : Tryz.f116.ntmps = 9 := by kernel_rfl
theorem r116 : resT Tryz.f116.results.toList = some [4] := by kernel_rfl
theorem x116 : cmpF Tryz.prog Tryz.f116 = some (expand T116 2 X116) := by kernel_rfl
def T117n0 : XC := .ops [.mk (some 10) none (.k (.mov (.tmp 3))), .mk (some 11) none (.k (.fld 1 (.tmp 4))), .mk (some 12) none (.k (.load [.int .u64] false (.tmp 11))), .mk (some 13) none (.k (.idxA 8 1 (.tmp 2) (.tmp 10))), .mk none none (.k (.store 1 (.tmp 13) (.tmp 12)))]
def T117n1 : XC := .seq (.blk 1 (.seq (.ops [.mk (some 8) none (.k (.mov (.tmp 6))), .mk (some 9) none (.k (.ixA 8 2 true (.tmp 5) (.tmp 6))), .mk (some 4) none (.k (.alloc 124 [.bool false, .int .u64 0])), .mk (some 3) none (.k (.mov (.tmp 8))), .mk none none (.k (.store 2 (.tmp 4) (.tmp 9)))]) (.ref 0))) (.ops [.mk (some 14) none (.k (.arith .add .i64 (.tmp 6) (.const (.int .i64 1)))), .mk (some 6) none (.k (.mov (.tmp 14)))])
def T117n2 : XC := .seq (.cond (.tmp 7) .skip (.exit 0)) (.ref 1)
def T117n3 : XC := .seq (.ops [.mk (some 7) none (.k (.cmp .lss .i64 (.tmp 6) (.const (.int .i64 8))))]) (.ref 2)
def T117n4 : XC := .seq (.ops [.mk (some 15) none (.k (.load [.int .u64, .int .u64, .int .u64, .int .u64, .int .u64, .int .u64, .int .u64, .int .u64] true (.tmp 2))), .mk none none (.k (.store 8 (.tmp 2) (.tmp 15)))]) .ret
def T117n5 : XC := .seq (.seq (.ops [.mk (some 5) none (.k (.load [.bool, .int .u64, .bool, .int .u64, .bool, .int .u64, .bool, .int .u64, .bool, .int .u64, .bool, .int .u64, .bool, .int .u64, .bool, .int .u64] true (.tmp 1))), .mk (some 6) none (.k (.mov (.const (.int .i64 0))))]) (.blk 0 (.loop (.ref 3)))) (.ref 4)
def T117 : Nat → XC
 | 0 => T117n0
 | 1 => T117n1
 | 2 => T117n2
 | 3 => T117n3
 | 4 => T117n4
 | 5 => T117n5
 | _ => .skip
theorem t117n0 : T117 0 = T117n0 := rfl
theorem t117n1 : T117 1 = T117n1 := rfl
theorem t117n2 : T117 2 = T117n2 := rfl
theorem t117n3 : T117 3 = T117n3 := rfl
theorem t117n4 : T117 4 = T117n4 := rfl
theorem t117n5 : T117 5 = T117n5 := rfl
def X117 : XC := .seq (.ops [.mk (some 1) none (.k (.box 126 16 (.tmp 0))), .mk (some 2) none (.k (.alloc 50 [.int .u64 0, .int .u64 0, .int .u64 0, .int .u64 0, .int .u64 0, .int .u64 0, .int .u64 0, .int .u64 0]))]) (.ref 5)
abbrev K117 : List Nat := [0, 1, 2, 3, 4, 5, 6, 7]
theorem n117 : Tryz.f117.ntmps = 16 := by kernel_rfl
theorem r117 : rvOf Tryz.prog Tryz.f117.results.toList = some [RV.cell 2 8 true] := by kernel_rfl
theorem x117 : cmpF Tryz.prog Tryz.f117 = some (expand T117 7 X117) := by kernel_rfl
def T144n0 : XC := .seq (.ops [.mk (some 5) none (.k (.mov (.tmp 0))), .mk (some 6) none (.k (.mov (.tmp 1))), .mk (some 7) none (.call 162 [.tmp 5, .tmp 6]), .mk (some 8) none (.k (.cmp .geq .i64 (.tmp 7) (.const (.int .i64 0)))), .mk (some 4) none (.k (.mov (.tmp 8)))]) .ret
def T144 : Nat → XC
 | 0 => T144n0
 | _ => .skip
theorem t144n0 : T144 0 = T144n0 := rfl
def X144 : XC := .seq (.ops [.mk (some 4) none (.k (.mov (.const (.bool false))))]) (.ref 0)
abbrev K144 : List Nat := [0, 1, 4]
theorem n144 : Tryz.f144.ntmps = 9 := by kernel_rfl
theorem r144 : resT Tryz.f144.results.toList = some [4] := by kernel_rfl
theorem x144 : cmpF Tryz.prog Tryz.f144 = some (expand T144 2 X144) := by kernel_rfl
def T145n0 : XC := .seq (.ops [.mk (some 4) none (.k (.mov (.tmp 0))), .mk (some 5) none (.k (.idxA 8 2 (.tmp 1) (.tmp 4))), .mk (some 6) none (.k (.load [.bool, .int .u64] true (.tmp 5))), .mk (some 7) none (.k (.build [.bool false, .int .u64 0] [])), .mk (some 8) none (.k (.eqa false [.bool, .int .u64] (.tmp 6) (.tmp 7))), .mk (some 3) none (.k (.mov (.tmp 8)))]) .ret
def T145 : Nat → XC
 | 0 => T145n0
 | _ => .skip
theorem t145n0 : T145 0 = T145n0 := rfl
def X145 : XC := .seq (.ops [.mk (some 3) none (.k (.mov (.const (.bool false))))]) (.ref 0)
abbrev K145 : List Nat := [0, 1, 3]
theorem n145 : Tryz.f145.ntmps = 9 := by kernel_rfl
theorem r145 : resT Tryz.f145.results.toList = some [3] := by kernel_rfl
theorem x145 : cmpF Tryz.prog Tryz.f145 = some (expand T145 2 X145) := by kernel_rfl
def T162n0 : XC := .seq (.ops [.mk (some 17) none (.k (.mov (.tmp 5))), .mk (some 4) none (.k (.mov (.tmp 17)))]) .ret
def T162n1 : XC := .seq (.ops [.mk (some 11) none (.k (.mov (.tmp 1))), .mk (some 12) none (.k (.mov (.tmp 0))), .mk (some 13) none (.k (.mov (.tmp 5))), .mk (some 14) none (.k (.idx 1 (.tmp 12) (.tmp 13))), .mk (some 15) none (.k (.load [.int .i64] false (.tmp 14))), .mk (some 16) none (.callv (.tmp 11) [.tmp 15])]) (.cond (.tmp 16) (.ref 0) .skip)
def T162n2 : XC := .seq (.blk 1 (.seq (.ops [.mk (some 10) none (.k (.mov (.tmp 8))), .mk (some 5) none (.k (.mov (.tmp 10)))]) (.ref 1))) (.ops [.mk (some 18) none (.k (.arith .add .i64 (.tmp 8) (.const (.int .i64 1)))), .mk (some 8) none (.k (.mov (.tmp 18)))])
def T162n3 : XC := .seq (.cond (.tmp 9) .skip (.exit 0)) (.ref 2)
def T162n4 : XC := .seq (.ops [.mk (some 9) none (.k (.cmp .lss .i64 (.tmp 8) (.tmp 7)))]) (.ref 3)
def T162n5 : XC := .seq (.ops [.mk (some 4) none (.k (.mov (.const (.int .i64 (-1)))))]) .ret
def T162n6 : XC := .seq (.seq (.ops [.mk (some 6) none (.k (.mov (.tmp 0))), .mk (some 7) none (.k (.lenS (.tmp 6))), .mk (some 8) none (.k (.mov (.const (.int .i64 0))))]) (.blk 0 (.loop (.ref 4)))) (.ref 5)
def T162 : Nat → XC
 | 0 => T162n0
 | 1 => T162n1
 | 2 => T162n2
 | 3 => T162n3
 | 4 => T162n4
 | 5 => T162n5
 | 6 => T162n6
 | _ => .skip
theorem t162n0 : T162 0 = T162n0 := rfl
theorem t162n1 : T162 1 = T162n1 := rfl
theorem t162n2 : T162 2 = T162n2 := rfl
theorem t162n3 : T162 3 = T162n3 := rfl
theorem t162n4 : T162 4 = T162n4 := rfl
theorem t162n5 : T162 5 = T162n5 := rfl
theorem t162n6 : T162 6 = T162n6 := rfl
def X162 : XC := .seq (.ops [.mk (some 4) none (.k (.mov (.const (.int .i64 0))))]) (.ref 6)
abbrev K162 : List Nat := [0, 1, 4, 5, 7, 8, 9, 16]
theorem n162 : Tryz.f162.ntmps = 19 := by kernel_rfl
theorem r162 : resT Tryz.f162.results.toList = some [4] := by kernel_rfl
theorem x162 : cmpF Tryz.prog Tryz.f162 = some (expand T162 8 X162) := by kernel_rfl
end Go.Proofs.YtlbiogokpadaoaaGreatDoor
