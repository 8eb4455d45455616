/- Printed by program: the small code of functions, and that it is theirs. -/
import Derived.Test.YtnedgfkgmdoahaaSxStill
import Derived.Test.YtnedgfkgmdoahaaProg
import Derived.KernelRfl
set_option linter.unusedSimpArgs false
set_option linter.unusedVariables false
set_option linter.unnecessarySimpa false
namespace Go.Proofs.Ytnedgfkgmdoahaa
open Go Go.Sx
set_option maxRecDepth 100000
def T54n0 : XC := .seq (.ops [.mk (some 2) none (.k (.mov (.const (.slice none 0 0)))), .mk (some 3) none (.k (.mov (.const (.int .i64 120))))]) .ret
def T54n1 : XC := .seq (.ops [.mk (some 48) none (.k (.mov (.tmp 4))), .mk (some 49) none (.k (.mov (.tmp 8))), .mk (some 50) none (.k (.buildS 122 1 1 [.pointer none] [(0, .tmp 49)])), .mk (some 51) none (.k (.app 122 1 8 (.tmp 48) (.tmp 50))), .mk (some 4) none (.k (.mov (.tmp 51)))]) (.exit 1)
def T54n2 : XC := .seq (.ops [.mk (some 44) none (.k (.mov (.tmp 5))), .mk (some 45) none (.k (.fld 2 (.tmp 7))), .mk (some 46) none (.k (.load [.int .i64] false (.tmp 45))), .mk (some 47) none (.k (.mov (.tmp 8))), .mk none none (.k (.mupd (.int .i64) (.tmp 44) (.tmp 46) (.tmp 47)))]) (.ref 1)
def T54n3 : XC := .seq (.ops [.mk (some 31) none (.k (.fld 2 (.tmp 7))), .mk (some 32) none (.k (.load [.int .i64] false (.tmp 31))), .mk (some 33) none (.k (.fld 3 (.tmp 7))), .mk (some 34) none (.k (.load [.int .i64] false (.tmp 33))), .mk (some 35) none (.k (.fld 4 (.tmp 7))), .mk (some 36) none (.k (.load [.int .i64] false (.tmp 35))), .mk (some 37) none (.k (.fld 5 (.tmp 7))), .mk (some 38) none (.k (.load [.int .i64] false (.tmp 37))), .mk (some 39) none (.k (.mov (.tmp 6))), .mk (some 40) none (.k (.build [.int .i64 0, .int .i64 0, .int .i64 0, .int .i64 0, .int .i64 0, .int .i64 0, .int .i64 0, .slice none 0 0, .slice none 0 0, .bool false, .int .i64 0] [(0, 1, .tmp 32), (1, 1, .tmp 34), (2, 1, .tmp 36), (3, 1, .tmp 38), (4, 1, .tmp 39), (5, 1, .const (.int .i64 (-1))), (6, 1, .const (.int .i64 (-1)))])), .mk (some 41) none (.k .mkmap), .mk (some 42) none (.k (.build [.int .i64 0, .int .i64 0, .int .i64 0, .int .i64 0, .int .i64 0, .int .i64 0, .int .i64 0, .slice none 0 0, .slice none 0 0, .bool false, .int .i64 0, .bool false, .map none] [(0, 11, .tmp 40), (12, 1, .tmp 41)])), .mk (some 43) none (.k (.box 124 13 (.tmp 42))), .mk (some 8) none (.k (.mov (.tmp 43)))]) (.ref 2)
def T54n4 : XC := .seq (.ops [.mk (some 29) none (.k (.mov (.tmp 8))), .mk (some 30) none (.k (.isnil NK.p false (.tmp 29))), .mk (some 28) none (.k (.mov (.tmp 30)))]) (.cond (.tmp 28) (.ref 3) .skip)
def T54n5 : XC := .ops [.mk (some 62) none (.k (.mov (.tmp 5))), .mk (some 63) none (.k (.fld 2 (.tmp 7))), .mk (some 64) none (.k (.load [.int .i64] false (.tmp 63))), .mk none none (.k (.mdel (.int .i64) (.tmp 62) (.tmp 64)))]
def T54n6 : XC := .seq (.ops [.mk (some 56) none (.k (.mov (.tmp 8))), .mk (some 57) none (.k (.nilc (.tmp 56))), .mk (some 58) none (.k (.fld 0 (.tmp 57))), .mk (some 59) none (.k (.fld 6 (.tmp 58))), .mk (some 60) none (.k (.load [.int .i64] false (.tmp 59))), .mk (some 61) none (.k (.cmp .geq .i64 (.tmp 60) (.const (.int .i64 0))))]) (.cond (.tmp 61) (.ref 5) .skip)
def T54n7 : XC := .seq (.ops [.mk (some 52) none (.k (.mov (.tmp 8))), .mk (some 53) none (.k (.mov (.tmp 6))), .mk (some 54) none (.k (.load [.int .i64, .int .i64, .int .i64, .int .i64, .int .i64, .int .i64, .int .i64, .int .u64, .int .i64] true (.tmp 7))), .mk (some 55) none (.call 70 [.tmp 52, .tmp 53, .tmp 54])]) (.ref 6)
def T54n8 : XC := .seq (.blk 2 (.seq (.ops [.mk (some 26) none (.k (.load [.int .i64, .int .i64, .int .i64, .int .i64, .int .i64, .int .i64, .int .i64, .int .u64, .int .i64] true (.tmp 7))), .mk (some 27) none (.call 55 [.tmp 26]), .mk (some 25) none (.k (.mov (.tmp 27)))]) (.cond (.tmp 25) (.exit 1) (.ref 4)))) (.ref 7)
def T54n9 : XC := .seq (.seq (.ops [.mk (some 21) none (.k (.load [.int .i64, .int .i64, .int .i64, .int .i64, .int .i64, .int .i64, .int .i64, .int .u64, .int .i64] true (.tmp 7))), .mk (some 22) none (.k (.mov (.tmp 8))), .mk (some 23) none (.call 69 [.tmp 21, .tmp 22]), .mk (some 24) none (.k (.not (.tmp 23)))]) (.cond (.tmp 24) (.ref 0) .skip)) (.ref 8)
def T54n10 : XC := .seq (.ops [.mk (some 17) none (.k (.mov (.tmp 5))), .mk (some 18) none (.k (.fld 2 (.tmp 7))), .mk (some 19) none (.k (.load [.int .i64] false (.tmp 18))), .mk (some 20) none (.k (.lkup (.int .i64) (.pointer none) false (.tmp 17) (.tmp 19))), .mk (some 8) none (.k (.mov (.tmp 20)))]) (.ref 9)
def T54n11 : XC := .seq (.blk 1 (.seq (.ops [.mk (some 14) none (.k (.mov (.tmp 12))), .mk (some 15) none (.k (.idx 9 (.tmp 10) (.tmp 12))), .mk (some 16) none (.k (.load [.int .i64, .int .i64, .int .i64, .int .i64, .int .i64, .int .i64, .int .i64, .int .u64, .int .i64] true (.tmp 15))), .mk (some 7) none (.k (.alloc 65 [.int .i64 0, .int .i64 0, .int .i64 0, .int .i64 0, .int .i64 0, .int .i64 0, .int .i64 0, .int .u64 0, .int .i64 0])), .mk (some 6) none (.k (.mov (.tmp 14))), .mk none none (.k (.store 9 (.tmp 7) (.tmp 16)))]) (.ref 10))) (.ops [.mk (some 65) none (.k (.arith .add .i64 (.tmp 12) (.const (.int .i64 1)))), .mk (some 12) none (.k (.mov (.tmp 65)))])
def T54n12 : XC := .seq (.cond (.tmp 13) .skip (.exit 0)) (.ref 11)
def T54n13 : XC := .seq (.ops [.mk (some 13) none (.k (.cmp .lss .i64 (.tmp 12) (.tmp 11)))]) (.ref 12)
def T54n14 : XC := .seq (.ops [.mk (some 66) none (.k (.mov (.tmp 4))), .mk (some 2) none (.k (.mov (.tmp 66))), .mk (some 3) none (.k (.mov (.const (.int .i64 0))))]) .ret
def T54n15 : XC := .seq (.seq (.ops [.mk (some 10) none (.k (.mov (.tmp 0))), .mk (some 11) none (.k (.lenS (.tmp 10))), .mk (some 12) none (.k (.mov (.const (.int .i64 0))))]) (.blk 0 (.loop (.ref 13)))) (.ref 14)
def T54n16 : XC := .seq (.ops [.mk (some 9) none (.k .mkmap), .mk (some 5) none (.k (.mov (.tmp 9)))]) (.seq (.lab) (.ref 15))
def T54n17 : XC := .scp (.seq (.ops [.mk (some 4) none (.k (.mov (.const (.slice none 0 0))))]) (.ref 16))
def T54 : Nat → XC
 | 0 => T54n0
 | 1 => T54n1
 | 2 => T54n2
 | 3 => T54n3
 | 4 => T54n4
 | 5 => T54n5
 | 6 => T54n6
 | 7 => T54n7
 | 8 => T54n8
 | 9 => T54n9
 | 10 => T54n10
 | 11 => T54n11
 | 12 => T54n12
 | 13 => T54n13
 | 14 => T54n14
 | 15 => T54n15
 | 16 => T54n16
 | 17 => T54n17
 | _ => .skip
theorem t54n0 : T54 0 = T54n0 := rfl
theorem t54n1 : T54 1 = T54n1 := rfl
theorem t54n2 : T54 2 = T54n2 := rfl
theorem t54n3 : T54 3 = T54n3 := rfl
theorem t54n4 : T54 4 = T54n4 := rfl
theorem t54n5 : T54 5 = T54n5 := rfl
theorem t54n6 : T54 6 = T54n6 := rfl
theorem t54n7 : T54 7 = T54n7 := rfl
theorem t54n8 : T54 8 = T54n8 := rfl
theorem t54n9 : T54 9 = T54n9 := rfl
theorem t54n10 : T54 10 = T54n10 := rfl
theorem t54n11 : T54 11 = T54n11 := rfl
theorem t54n12 : T54 12 = T54n12 := rfl
theorem t54n13 : T54 13 = T54n13 := rfl
theorem t54n14 : T54 14 = T54n14 := rfl
theorem t54n15 : T54 15 = T54n15 := rfl
theorem t54n16 : T54 16 = T54n16 := rfl
theorem t54n17 : T54 17 = T54n17 := rfl
def X54 : XC := .seq (.ops [.mk (some 2) none (.k (.mov (.const (.slice none 0 0)))), .mk (some 3) none (.k (.mov (.const (.int .i64 0))))]) (.ref 17)
abbrev K54 : List Nat := [0, 2, 3, 4, 5, 6, 7, 8, 10, 11, 12, 13, 24, 25, 28, 61]
theorem n54 : Try.f54.ntmps = 67 := by kernel_rfl
theorem r54 : resT Try.f54.results.toList = some [2, 3] := by kernel_rfl
theorem x54 : cmpF Try.prog Try.f54 = some (expand T54 19 X54) := by kernel_rfl
def T55n0 : XC := .seq (.ops [.mk (some 3) none (.k (.fld 0 (.tmp 1))), .mk (some 4) none (.k (.load [.int .i64] false (.tmp 3))), .mk (some 5) none (.k (.cmp .eql .i64 (.tmp 4) (.const (.int .i64 7)))), .mk (some 6) none (.k (.mov (.tmp 5))), .mk (some 7) (some (6, false)) (.k (.fld 0 (.tmp 1))), .mk (some 8) (some (6, false)) (.k (.load [.int .i64] false (.tmp 7))), .mk (some 9) (some (6, false)) (.k (.cmp .eql .i64 (.tmp 8) (.const (.int .i64 8)))), .mk (some 10) none (.k (.pick (.tmp 6) (.const (.bool true)) (.tmp 9))), .mk (some 2) none (.k (.mov (.tmp 10)))]) .ret
def T55 : Nat → XC
 | 0 => T55n0
 | _ => .skip
theorem t55n0 : T55 0 = T55n0 := rfl
def X55 : XC := .seq (.ops [.mk (some 1) none (.k (.box 65 9 (.tmp 0))), .mk (some 2) none (.k (.mov (.const (.bool false))))]) (.ref 0)
abbrev K55 : List Nat := [0, 1, 2]
theorem n55 : Try.f55.ntmps = 11 := by kernel_rfl
theorem r55 : resT Try.f55.results.toList = some [2] := by kernel_rfl
theorem x55 : cmpF Try.prog Try.f55 = some (expand T55 2 X55) := by kernel_rfl
def T56n0 : XC := .seq (.ops [.mk (some 3) none (.k (.mov (.tmp 0))), .mk (some 4) none (.k (.nilc (.tmp 3))), .mk (some 5) none (.k (.fld 0 (.tmp 4))), .mk (some 6) none (.k (.fld 3 (.tmp 5))), .mk (some 7) none (.k (.load [.int .i64] false (.tmp 6))), .mk (some 8) none (.k (.cmp .eql .i64 (.tmp 7) (.const (.int .i64 1)))), .mk (some 9) none (.k (.mov (.tmp 8))), .mk (some 10) (some (9, false)) (.k (.mov (.tmp 0))), .mk (some 11) (some (9, false)) (.k (.nilc (.tmp 10))), .mk (some 12) (some (9, false)) (.k (.fld 0 (.tmp 11))), .mk (some 13) (some (9, false)) (.k (.fld 3 (.tmp 12))), .mk (some 14) (some (9, false)) (.k (.load [.int .i64] false (.tmp 13))), .mk (some 15) (some (9, false)) (.k (.cmp .eql .i64 (.tmp 14) (.const (.int .i64 2)))), .mk (some 16) none (.k (.pick (.tmp 9) (.const (.bool true)) (.tmp 15))), .mk (some 2) none (.k (.mov (.tmp 16)))]) .ret
def T56 : Nat → XC
 | 0 => T56n0
 | _ => .skip
theorem t56n0 : T56 0 = T56n0 := rfl
def X56 : XC := .seq (.ops [.mk (some 2) none (.k (.mov (.const (.bool false))))]) (.ref 0)
abbrev K56 : List Nat := [0, 2]
theorem n56 : Try.f56.ntmps = 17 := by kernel_rfl
theorem r56 : resT Try.f56.results.toList = some [2] := by kernel_rfl
theorem x56 : cmpF Try.prog Try.f56 = some (expand T56 2 X56) := by kernel_rfl
def T69n0 : XC := .seq (.ops [.mk (some 4) none (.k (.mov (.const (.bool false))))]) .ret
def T69n1 : XC := .seq (.ops [.mk (some 49) none (.k (.mov (.tmp 1))), .mk (some 50) none (.k (.isnil NK.p false (.tmp 49))), .mk (some 51) none (.k (.mov (.tmp 50))), .mk (some 52) (some (51, true)) (.k (.fld 5 (.tmp 2))), .mk (some 53) (some (51, true)) (.k (.load [.int .i64] false (.tmp 52))), .mk (some 54) (some (51, true)) (.k (.cmp .geq .i64 (.tmp 53) (.const (.int .i64 1)))), .mk (some 55) none (.k (.pick (.tmp 51) (.tmp 54) (.const (.bool false)))), .mk (some 56) none (.k (.mov (.tmp 55))), .mk (some 57) (some (56, true)) (.k (.fld 5 (.tmp 2))), .mk (some 58) (some (56, true)) (.k (.load [.int .i64] false (.tmp 57))), .mk (some 59) (some (56, true)) (.k (.cmp .leq .i64 (.tmp 58) (.const (.int .i64 4)))), .mk (some 60) none (.k (.pick (.tmp 56) (.tmp 59) (.const (.bool false)))), .mk (some 61) none (.k (.mov (.tmp 60))), .mk (some 62) (some (61, true)) (.k (.fld 3 (.tmp 2))), .mk (some 63) (some (61, true)) (.k (.load [.int .i64] false (.tmp 62))), .mk (some 64) (some (61, true)) (.k (.cmp .geq .i64 (.tmp 63) (.const (.int .i64 0)))), .mk (some 65) none (.k (.pick (.tmp 61) (.tmp 64) (.const (.bool false)))), .mk (some 66) none (.k (.mov (.tmp 65))), .mk (some 67) (some (66, true)) (.k (.fld 4 (.tmp 2))), .mk (some 68) (some (66, true)) (.k (.load [.int .i64] false (.tmp 67))), .mk (some 69) (some (66, true)) (.k (.cmp .geq .i64 (.tmp 68) (.const (.int .i64 0)))), .mk (some 70) none (.k (.pick (.tmp 66) (.tmp 69) (.const (.bool false)))), .mk (some 4) none (.k (.mov (.tmp 70)))]) .ret
def T69n2 : XC := .seq (.ops [.mk (some 74) none (.k (.mov (.tmp 1))), .mk (some 75) none (.k (.isnil NK.p false (.tmp 74))), .mk (some 4) none (.k (.mov (.tmp 75)))]) .ret
def T69n3 : XC := .seq (.ops [.mk (some 4) none (.k (.mov (.const (.bool false))))]) .ret
def T69n4 : XC := .seq (.ops [.mk (some 77) none (.k (.mov (.tmp 1))), .mk (some 78) none (.k (.isnil NK.p false (.tmp 77))), .mk (some 79) none (.k (.mov (.tmp 78))), .mk (some 80) (some (79, false)) (.k (.mov (.tmp 1))), .mk (some 81) (some (79, false)) (.k (.nilc (.tmp 80))), .mk (some 82) (some (79, false)) (.k (.fld 0 (.tmp 81))), .mk (some 83) (some (79, false)) (.k (.fld 1 (.tmp 82))), .mk (some 84) (some (79, false)) (.k (.load [.int .i64] false (.tmp 83))), .mk (some 85) (some (79, false)) (.k (.fld 3 (.tmp 2))), .mk (some 86) (some (79, false)) (.k (.load [.int .i64] false (.tmp 85))), .mk (some 87) (some (79, false)) (.k (.cmp .neq .i64 (.tmp 84) (.tmp 86))), .mk (some 88) none (.k (.pick (.tmp 79) (.const (.bool true)) (.tmp 87))), .mk (some 89) none (.k (.mov (.tmp 88))), .mk (some 90) (some (89, false)) (.k (.mov (.tmp 1))), .mk (some 91) (some (89, false)) (.k (.nilc (.tmp 90))), .mk (some 92) (some (89, false)) (.k (.fld 0 (.tmp 91))), .mk (some 93) (some (89, false)) (.k (.fld 2 (.tmp 92))), .mk (some 94) (some (89, false)) (.k (.load [.int .i64] false (.tmp 93))), .mk (some 95) (some (89, false)) (.k (.fld 4 (.tmp 2))), .mk (some 96) (some (89, false)) (.k (.load [.int .i64] false (.tmp 95))), .mk (some 97) (some (89, false)) (.k (.cmp .neq .i64 (.tmp 94) (.tmp 96))), .mk (some 98) none (.k (.pick (.tmp 89) (.const (.bool true)) (.tmp 97))), .mk (some 76) none (.k (.mov (.tmp 98)))]) (.cond (.tmp 76) (.ref 3) .skip)
def T69n5 : XC := .seq (.ops [.mk (some 72) none (.k (.load [.int .i64, .int .i64, .int .i64, .int .i64, .int .i64, .int .i64, .int .i64, .int .u64, .int .i64] true (.tmp 2))), .mk (some 73) none (.call 55 [.tmp 72]), .mk (some 71) none (.k (.mov (.tmp 73)))]) (.cond (.tmp 71) (.ref 2) (.ref 4))
def T69n6 : XC := .seq (.ops [.mk (some 46) none (.k (.fld 0 (.tmp 2))), .mk (some 47) none (.k (.load [.int .i64] false (.tmp 46))), .mk (some 48) none (.k (.cmp .eql .i64 (.tmp 47) (.const (.int .i64 1)))), .mk (some 45) none (.k (.mov (.tmp 48)))]) (.cond (.tmp 45) (.ref 1) (.ref 5))
def T69n7 : XC := .seq (.ops [.mk (some 99) none (.k (.fld 0 (.tmp 2))), .mk (some 100) none (.k (.load [.int .i64] false (.tmp 99))), .mk (some 101) none (.k (.cmp .neq .i64 (.tmp 100) (.const (.int .i64 6)))), .mk (some 102) none (.k (.mov (.tmp 101))), .mk (some 103) (some (102, false)) (.k (.fld 8 (.tmp 2))), .mk (some 104) (some (102, false)) (.k (.load [.int .i64] false (.tmp 103))), .mk (some 105) (some (102, false)) (.k (.cmp .geq .i64 (.tmp 104) (.const (.int .i64 1)))), .mk (some 106) (some (102, false)) (.k (.mov (.tmp 105))), .mk (some 107) (some (106, true)) (.k (.fld 8 (.tmp 2))), .mk (some 108) (some (106, true)) (.k (.load [.int .i64] false (.tmp 107))), .mk (some 109) (some (106, true)) (.k (.cmp .leq .i64 (.tmp 108) (.const (.int .i64 8)))), .mk (some 110) (some (102, false)) (.k (.pick (.tmp 106) (.tmp 109) (.const (.bool false)))), .mk (some 111) none (.k (.pick (.tmp 102) (.const (.bool true)) (.tmp 110))), .mk (some 4) none (.k (.mov (.tmp 111)))]) .ret
def T69n8 : XC := .seq (.blk 0 (.seq (.ops [.mk (some 19) none (.k (.fld 0 (.tmp 2))), .mk (some 20) none (.k (.load [.int .i64] false (.tmp 19))), .mk (some 21) none (.k (.cmp .lss .i64 (.tmp 20) (.const (.int .i64 1)))), .mk (some 22) none (.k (.mov (.tmp 21))), .mk (some 23) (some (22, false)) (.k (.fld 0 (.tmp 2))), .mk (some 24) (some (22, false)) (.k (.load [.int .i64] false (.tmp 23))), .mk (some 25) (some (22, false)) (.k (.cmp .gtr .i64 (.tmp 24) (.const (.int .i64 8)))), .mk (some 26) none (.k (.pick (.tmp 22) (.const (.bool true)) (.tmp 25))), .mk (some 27) none (.k (.mov (.tmp 26))), .mk (some 28) (some (27, false)) (.k (.fld 2 (.tmp 2))), .mk (some 29) (some (27, false)) (.k (.load [.int .i64] false (.tmp 28))), .mk (some 30) (some (27, false)) (.k (.cmp .lss .i64 (.tmp 29) (.const (.int .i64 0)))), .mk (some 31) none (.k (.pick (.tmp 27) (.const (.bool true)) (.tmp 30))), .mk (some 32) none (.k (.mov (.tmp 31))), .mk (some 33) (some (32, false)) (.k (.fld 2 (.tmp 2))), .mk (some 34) (some (32, false)) (.k (.load [.int .i64] false (.tmp 33))), .mk (some 35) (some (32, false)) (.k (.cmp .geq .i64 (.tmp 34) (.const (.int .i64 4)))), .mk (some 36) none (.k (.pick (.tmp 32) (.const (.bool true)) (.tmp 35))), .mk (some 37) none (.k (.mov (.tmp 36))), .mk (some 38) (some (37, false)) (.k (.mov (.tmp 5))), .mk (some 39) (some (37, false)) (.k (.mov (.tmp 38))), .mk (some 40) (some (39, true)) (.k (.fld 6 (.tmp 2))), .mk (some 41) (some (39, true)) (.k (.load [.int .i64] false (.tmp 40))), .mk (some 42) (some (39, true)) (.k (.cmp .lss .i64 (.tmp 41) (.const (.int .i64 0)))), .mk (some 43) (some (37, false)) (.k (.pick (.tmp 39) (.tmp 42) (.const (.bool false)))), .mk (some 44) none (.k (.pick (.tmp 37) (.const (.bool true)) (.tmp 43))), .mk (some 18) none (.k (.mov (.tmp 44)))]) (.cond (.tmp 18) (.ref 0) (.ref 6)))) (.ref 7)
def T69n9 : XC := .seq (.ops [.mk (some 6) none (.k (.fld 0 (.tmp 2))), .mk (some 7) none (.k (.load [.int .i64] false (.tmp 6))), .mk (some 8) none (.k (.cmp .eql .i64 (.tmp 7) (.const (.int .i64 2)))), .mk (some 9) none (.k (.mov (.tmp 8))), .mk (some 10) (some (9, false)) (.k (.fld 0 (.tmp 2))), .mk (some 11) (some (9, false)) (.k (.load [.int .i64] false (.tmp 10))), .mk (some 12) (some (9, false)) (.k (.cmp .eql .i64 (.tmp 11) (.const (.int .i64 3)))), .mk (some 13) none (.k (.pick (.tmp 9) (.const (.bool true)) (.tmp 12))), .mk (some 14) none (.k (.mov (.tmp 13))), .mk (some 15) (some (14, false)) (.k (.load [.int .i64, .int .i64, .int .i64, .int .i64, .int .i64, .int .i64, .int .i64, .int .u64, .int .i64] true (.tmp 2))), .mk (some 16) (some (14, false)) (.call 55 [.tmp 15]), .mk (some 17) none (.k (.pick (.tmp 14) (.const (.bool true)) (.tmp 16))), .mk (some 5) none (.k (.mov (.tmp 17)))]) (.ref 8)
def T69 : Nat → XC
 | 0 => T69n0
 | 1 => T69n1
 | 2 => T69n2
 | 3 => T69n3
 | 4 => T69n4
 | 5 => T69n5
 | 6 => T69n6
 | 7 => T69n7
 | 8 => T69n8
 | 9 => T69n9
 | _ => .skip
theorem t69n0 : T69 0 = T69n0 := rfl
theorem t69n1 : T69 1 = T69n1 := rfl
theorem t69n2 : T69 2 = T69n2 := rfl
theorem t69n3 : T69 3 = T69n3 := rfl
theorem t69n4 : T69 4 = T69n4 := rfl
theorem t69n5 : T69 5 = T69n5 := rfl
theorem t69n6 : T69 6 = T69n6 := rfl
theorem t69n7 : T69 7 = T69n7 := rfl
theorem t69n8 : T69 8 = T69n8 := rfl
theorem t69n9 : T69 9 = T69n9 := rfl
def X69 : XC := .seq (.ops [.mk (some 2) none (.k (.box 65 9 (.tmp 0))), .mk (some 4) none (.k (.mov (.const (.bool false))))]) (.ref 9)
abbrev K69 : List Nat := [0, 1, 2, 4, 5, 18, 45, 71, 76]
theorem n69 : Try.f69.ntmps = 112 := by kernel_rfl
theorem r69 : resT Try.f69.results.toList = some [4] := by kernel_rfl
theorem x69 : cmpF Try.prog Try.f69 = some (expand T69 11 X69) := by kernel_rfl
def T70n0 : XC := .ops [.mk (some 16) none (.k (.mov (.tmp 0))), .mk (some 17) none (.k (.mov (.tmp 1))), .mk (some 18) none (.k (.nilc (.tmp 16))), .mk (some 19) none (.k (.fld 0 (.tmp 18))), .mk (some 20) none (.k (.fld 5 (.tmp 19))), .mk none none (.k (.store 1 (.tmp 20) (.tmp 17)))]
def T70n1 : XC := .seq (.ops [.mk (some 14) none (.k (.mov (.tmp 0))), .mk (some 15) none (.call 56 [.tmp 14])]) (.cond (.tmp 15) (.ref 0) .skip)
def T70n2 : XC := .seq (.ops [.mk (some 11) none (.k (.mov (.tmp 0))), .mk (some 12) none (.k (.load [.int .i64, .int .i64, .int .i64, .int .i64, .int .i64, .int .i64, .int .i64, .int .u64, .int .i64] true (.tmp 5))), .mk (some 13) none (.call 77 [.tmp 11, .tmp 12])]) (.ref 1)
def T70n3 : XC := .seq (.ops [.mk (some 39) none (.k (.mov (.tmp 0))), .mk (some 40) none (.k (.nilc (.tmp 39))), .mk (some 41) none (.k (.fld 0 (.tmp 40))), .mk (some 42) none (.k (.fld 8 (.tmp 41))), .mk (some 43) none (.k (.load [.slc] false (.tmp 42))), .mk (some 44) none (.k (.mov (.tmp 6))), .mk (some 45) none (.k (.fld 7 (.tmp 5))), .mk (some 46) none (.k (.load [.int .u64] false (.tmp 45))), .mk (some 47) none (.k (.idx 2 (.tmp 43) (.tmp 44))), .mk (some 48) none (.k (.fld 1 (.tmp 47))), .mk none none (.k (.store 1 (.tmp 48) (.tmp 46)))]) .ret
def T70n4 : XC := .seq (.ops [.mk (some 37) none (.k (.mov (.tmp 6))), .mk (some 38) none (.k (.cmp .geq .i64 (.tmp 37) (.const (.int .i64 0))))]) (.cond (.tmp 38) (.ref 3) .skip)
def T70n5 : XC := .ops [.mk (some 49) none (.k (.mov (.tmp 0))), .mk (some 50) none (.k (.mov (.tmp 0))), .mk (some 51) none (.k (.nilc (.tmp 50))), .mk (some 52) none (.k (.fld 0 (.tmp 51))), .mk (some 53) none (.k (.fld 8 (.tmp 52))), .mk (some 54) none (.k (.load [.slc] false (.tmp 53))), .mk (some 55) none (.k (.fld 6 (.tmp 5))), .mk (some 56) none (.k (.load [.int .i64] false (.tmp 55))), .mk (some 57) none (.k (.fld 7 (.tmp 5))), .mk (some 58) none (.k (.load [.int .u64] false (.tmp 57))), .mk (some 59) none (.k (.build [.int .i64 0, .int .u64 0] [(0, 1, .tmp 56), (1, 1, .tmp 58)])), .mk (some 60) none (.k (.buildS 92 1 2 [.int .i64 0, .int .u64 0] [(0, .tmp 59)])), .mk (some 61) none (.k (.app 92 2 16 (.tmp 54) (.tmp 60))), .mk (some 62) none (.k (.nilc (.tmp 49))), .mk (some 63) none (.k (.fld 0 (.tmp 62))), .mk (some 64) none (.k (.fld 8 (.tmp 63))), .mk none none (.k (.store 1 (.tmp 64) (.tmp 61)))]
def T70n6 : XC := .seq (.seq (.ops [.mk (some 29) none (.k (.mov (.tmp 0))), .mk (some 30) none (.k (.nilc (.tmp 29))), .mk (some 31) none (.k (.fld 0 (.tmp 30))), .mk (some 32) none (.k (.fld 8 (.tmp 31))), .mk (some 33) none (.k (.load [.slc] false (.tmp 32))), .mk (some 34) none (.k (.fld 6 (.tmp 5))), .mk (some 35) none (.k (.load [.int .i64] false (.tmp 34))), .mk (some 36) none (.call 78 [.tmp 33, .tmp 35]), .mk (some 6) none (.k (.mov (.tmp 36)))]) (.ref 4)) (.ref 5)
def T70n7 : XC := .seq (.ops [.mk (some 23) none (.k (.mov (.tmp 0))), .mk (some 24) none (.k (.nilc (.tmp 23))), .mk (some 25) none (.k (.fld 12 (.tmp 24))), .mk (some 26) none (.k (.load [.map] false (.tmp 25))), .mk (some 27) none (.k (.fld 6 (.tmp 5))), .mk (some 28) none (.k (.load [.int .i64] false (.tmp 27))), .mk none none (.k (.mupd (.int .i64) (.tmp 26) (.tmp 28) (.const (.int .i64 1))))]) (.ref 6)
def T70n8 : XC := .ops [.mk (some 70) none (.k (.mov (.tmp 0))), .mk (some 71) none (.k (.mov (.tmp 1))), .mk (some 72) none (.k (.nilc (.tmp 70))), .mk (some 73) none (.k (.fld 0 (.tmp 72))), .mk (some 74) none (.k (.fld 5 (.tmp 73))), .mk none none (.k (.store 1 (.tmp 74) (.tmp 71)))]
def T70n9 : XC := .seq (.ops [.mk (some 67) none (.k (.mov (.tmp 0))), .mk (some 68) none (.call 56 [.tmp 67]), .mk (some 69) none (.k (.not (.tmp 68)))]) (.cond (.tmp 69) (.ref 8) .skip)
def T70n10 : XC := .ops [.mk (some 88) none (.k (.mov (.tmp 0))), .mk (some 89) none (.k (.mov (.tmp 1))), .mk (some 90) none (.k (.nilc (.tmp 88))), .mk (some 91) none (.k (.fld 0 (.tmp 90))), .mk (some 92) none (.k (.fld 5 (.tmp 91))), .mk none none (.k (.store 1 (.tmp 92) (.tmp 89)))]
def T70n11 : XC := .seq (.ops [.mk (some 86) none (.k (.mov (.tmp 0))), .mk (some 87) none (.call 56 [.tmp 86])]) (.cond (.tmp 87) (.ref 10) .skip)
def T70n12 : XC := .seq (.ops [.mk (some 77) none (.k (.mov (.tmp 0))), .mk (some 78) none (.k (.mov (.tmp 0))), .mk (some 79) none (.k (.mov (.tmp 1))), .mk (some 80) none (.k (.nilc (.tmp 77))), .mk (some 81) none (.k (.fld 0 (.tmp 80))), .mk (some 82) none (.k (.fld 6 (.tmp 81))), .mk none none (.k (.store 1 (.tmp 82) (.tmp 79))), .mk (some 83) none (.k (.nilc (.tmp 78))), .mk (some 84) none (.k (.fld 0 (.tmp 83))), .mk (some 85) none (.k (.fld 9 (.tmp 84))), .mk none none (.k (.store 1 (.tmp 85) (.const (.bool true))))]) (.ref 11)
def T70n13 : XC := .ops [.mk (some 95) none (.k (.mov (.tmp 0))), .mk (some 96) none (.k (.mov (.tmp 0))), .mk (some 97) none (.k (.mov (.tmp 1))), .mk (some 98) none (.k (.fld 8 (.tmp 5))), .mk (some 99) none (.k (.load [.int .i64] false (.tmp 98))), .mk (some 100) none (.k (.nilc (.tmp 95))), .mk (some 101) none (.k (.fld 0 (.tmp 100))), .mk (some 102) none (.k (.fld 6 (.tmp 101))), .mk none none (.k (.store 1 (.tmp 102) (.tmp 97))), .mk none none (.still 99 (.load [.int .i64] false (.tmp 98))), .mk (some 103) none (.k (.nilc (.tmp 96))), .mk (some 104) none (.k (.fld 0 (.tmp 103))), .mk (some 105) none (.k (.fld 10 (.tmp 104))), .mk none none (.k (.store 1 (.tmp 105) (.tmp 99)))]
def T70n14 : XC := .seq (.ops [.mk (some 94) none (.k (.cmp .eql .i64 (.tmp 8) (.const (.int .i64 6)))), .mk (some 93) none (.k (.mov (.tmp 94)))]) (.cond (.tmp 93) (.ref 13) .skip)
def T70n15 : XC := .seq (.ops [.mk (some 76) none (.k (.cmp .eql .i64 (.tmp 8) (.const (.int .i64 5)))), .mk (some 75) none (.k (.mov (.tmp 76)))]) (.cond (.tmp 75) (.ref 12) (.ref 14))
def T70n16 : XC := .seq (.ops [.mk (some 66) none (.k (.cmp .eql .i64 (.tmp 8) (.const (.int .i64 4)))), .mk (some 65) none (.k (.mov (.tmp 66)))]) (.cond (.tmp 65) (.ref 9) (.ref 15))
def T70n17 : XC := .seq (.ops [.mk (some 22) none (.k (.cmp .eql .i64 (.tmp 8) (.const (.int .i64 3)))), .mk (some 21) none (.k (.mov (.tmp 22)))]) (.cond (.tmp 21) (.ref 7) (.ref 16))
def T70n18 : XC := .blk 0 (.seq (.ops [.mk (some 10) none (.k (.cmp .eql .i64 (.tmp 8) (.const (.int .i64 2)))), .mk (some 9) none (.k (.mov (.tmp 10)))]) (.cond (.tmp 9) (.ref 2) (.ref 17)))
def T70n19 : XC := .seq (.ops [.mk (some 7) none (.k (.fld 0 (.tmp 5))), .mk (some 8) none (.k (.load [.int .i64] false (.tmp 7)))]) (.ref 18)
def T70 : Nat → XC
 | 0 => T70n0
 | 1 => T70n1
 | 2 => T70n2
 | 3 => T70n3
 | 4 => T70n4
 | 5 => T70n5
 | 6 => T70n6
 | 7 => T70n7
 | 8 => T70n8
 | 9 => T70n9
 | 10 => T70n10
 | 11 => T70n11
 | 12 => T70n12
 | 13 => T70n13
 | 14 => T70n14
 | 15 => T70n15
 | 16 => T70n16
 | 17 => T70n17
 | 18 => T70n18
 | 19 => T70n19
 | _ => .skip
theorem t70n0 : T70 0 = T70n0 := rfl
theorem t70n1 : T70 1 = T70n1 := rfl
theorem t70n2 : T70 2 = T70n2 := rfl
theorem t70n3 : T70 3 = T70n3 := rfl
theorem t70n4 : T70 4 = T70n4 := rfl
theorem t70n5 : T70 5 = T70n5 := rfl
theorem t70n6 : T70 6 = T70n6 := rfl
theorem t70n7 : T70 7 = T70n7 := rfl
theorem t70n8 : T70 8 = T70n8 := rfl
theorem t70n9 : T70 9 = T70n9 := rfl
theorem t70n10 : T70 10 = T70n10 := rfl
theorem t70n11 : T70 11 = T70n11 := rfl
theorem t70n12 : T70 12 = T70n12 := rfl
theorem t70n13 : T70 13 = T70n13 := rfl
theorem t70n14 : T70 14 = T70n14 := rfl
theorem t70n15 : T70 15 = T70n15 := rfl
theorem t70n16 : T70 16 = T70n16 := rfl
theorem t70n17 : T70 17 = T70n17 := rfl
theorem t70n18 : T70 18 = T70n18 := rfl
theorem t70n19 : T70 19 = T70n19 := rfl
def X70 : XC := .seq (.ops [.mk (some 5) none (.k (.box 65 9 (.tmp 2)))]) (.ref 19)
abbrev K70 : List Nat := [0, 1, 2, 5, 6, 8, 9, 15, 21, 38, 65, 69, 75, 87, 93]
theorem n70 : Try.f70.ntmps = 106 := by kernel_rfl
theorem r70 : resT Try.f70.results.toList = some [] := by kernel_rfl
theorem x70 : cmpF Try.prog Try.f70 = some (expand T70 21 X70) := by kernel_rfl
def T77n0 : XC := .seq (.ops [.mk (some 30) none (.k (.mov (.tmp 0))), .mk (some 31) none (.k (.mov (.tmp 0))), .mk (some 32) none (.k (.nilc (.tmp 31))), .mk (some 33) none (.k (.fld 11 (.tmp 32))), .mk (some 34) none (.k (.load [.bool] false (.tmp 33))), .mk (some 35) none (.k (.mov (.tmp 34))), .mk (some 36) (some (35, false)) (.k (.mov (.tmp 0))), .mk (some 37) (some (35, false)) (.k (.nilc (.tmp 36))), .mk (some 38) (some (35, false)) (.k (.fld 0 (.tmp 37))), .mk (some 39) (some (35, false)) (.k (.fld 7 (.tmp 38))), .mk (some 40) (some (35, false)) (.k (.load [.slc] false (.tmp 39))), .mk (some 41) (some (35, false)) (.k (.mov (.tmp 4))), .mk (some 42) (some (35, false)) (.k (.idx 2 (.tmp 40) (.tmp 41))), .mk (some 43) (some (35, false)) (.k (.fld 1 (.tmp 42))), .mk (some 44) (some (35, false)) (.k (.load [.int .u64] false (.tmp 43))), .mk (some 45) (some (35, false)) (.k (.fld 7 (.tmp 3))), .mk (some 46) (some (35, false)) (.k (.load [.int .u64] false (.tmp 45))), .mk (some 47) (some (35, false)) (.k (.cmp .neq .u64 (.tmp 44) (.tmp 46))), .mk (some 48) none (.k (.pick (.tmp 35) (.const (.bool true)) (.tmp 47))), .mk (some 49) none (.k (.nilc (.tmp 30))), .mk (some 50) none (.k (.fld 11 (.tmp 49))), .mk none none (.k (.store 1 (.tmp 50) (.tmp 48)))]) .ret
def T77n1 : XC := .seq (.ops [.mk (some 28) none (.k (.mov (.tmp 4))), .mk (some 29) none (.k (.cmp .geq .i64 (.tmp 28) (.const (.int .i64 0))))]) (.cond (.tmp 29) (.ref 0) .skip)
def T77n2 : XC := .ops [.mk (some 51) none (.k (.mov (.tmp 0))), .mk (some 52) none (.k (.mov (.tmp 0))), .mk (some 53) none (.k (.nilc (.tmp 52))), .mk (some 54) none (.k (.fld 0 (.tmp 53))), .mk (some 55) none (.k (.fld 7 (.tmp 54))), .mk (some 56) none (.k (.load [.slc] false (.tmp 55))), .mk (some 57) none (.k (.fld 6 (.tmp 3))), .mk (some 58) none (.k (.load [.int .i64] false (.tmp 57))), .mk (some 59) none (.k (.fld 7 (.tmp 3))), .mk (some 60) none (.k (.load [.int .u64] false (.tmp 59))), .mk (some 61) none (.k (.build [.int .i64 0, .int .u64 0] [(0, 1, .tmp 58), (1, 1, .tmp 60)])), .mk (some 62) none (.k (.buildS 92 1 2 [.int .i64 0, .int .u64 0] [(0, .tmp 61)])), .mk (some 63) none (.k (.app 92 2 16 (.tmp 56) (.tmp 62))), .mk (some 64) none (.k (.nilc (.tmp 51))), .mk (some 65) none (.k (.fld 0 (.tmp 64))), .mk (some 66) none (.k (.fld 7 (.tmp 65))), .mk none none (.k (.store 1 (.tmp 66) (.tmp 63)))]
def T77n3 : XC := .seq (.seq (.ops [.mk (some 20) none (.k (.mov (.tmp 0))), .mk (some 21) none (.k (.nilc (.tmp 20))), .mk (some 22) none (.k (.fld 0 (.tmp 21))), .mk (some 23) none (.k (.fld 7 (.tmp 22))), .mk (some 24) none (.k (.load [.slc] false (.tmp 23))), .mk (some 25) none (.k (.fld 6 (.tmp 3))), .mk (some 26) none (.k (.load [.int .i64] false (.tmp 25))), .mk (some 27) none (.call 78 [.tmp 24, .tmp 26]), .mk (some 4) none (.k (.mov (.tmp 27)))]) (.ref 1)) (.ref 2)
def T77n4 : XC := .seq (.seq (.ops [.mk (some 11) none (.k (.mov (.tmp 0))), .mk (some 12) none (.k (.nilc (.tmp 11))), .mk (some 13) none (.k (.fld 0 (.tmp 12))), .mk (some 14) none (.k (.fld 8 (.tmp 13))), .mk (some 15) none (.k (.load [.slc] false (.tmp 14))), .mk (some 16) none (.k (.fld 6 (.tmp 3))), .mk (some 17) none (.k (.load [.int .i64] false (.tmp 16))), .mk (some 18) none (.call 78 [.tmp 15, .tmp 17]), .mk (some 19) none (.k (.cmp .geq .i64 (.tmp 18) (.const (.int .i64 0))))]) (.cond (.tmp 19) .ret .skip)) (.ref 3)
def T77n5 : XC := .seq (.ops [.mk (some 5) none (.k (.mov (.tmp 0))), .mk (some 6) none (.k (.nilc (.tmp 5))), .mk (some 7) none (.k (.fld 12 (.tmp 6))), .mk (some 8) none (.k (.load [.map] false (.tmp 7))), .mk (some 9) none (.k (.fld 6 (.tmp 3))), .mk (some 10) none (.k (.load [.int .i64] false (.tmp 9))), .mk none none (.k (.mupd (.int .i64) (.tmp 8) (.tmp 10) (.const (.int .i64 1))))]) (.ref 4)
def T77 : Nat → XC
 | 0 => T77n0
 | 1 => T77n1
 | 2 => T77n2
 | 3 => T77n3
 | 4 => T77n4
 | 5 => T77n5
 | _ => .skip
theorem t77n0 : T77 0 = T77n0 := rfl
theorem t77n1 : T77 1 = T77n1 := rfl
theorem t77n2 : T77 2 = T77n2 := rfl
theorem t77n3 : T77 3 = T77n3 := rfl
theorem t77n4 : T77 4 = T77n4 := rfl
theorem t77n5 : T77 5 = T77n5 := rfl
def X77 : XC := .seq (.ops [.mk (some 3) none (.k (.box 65 9 (.tmp 1)))]) (.ref 5)
abbrev K77 : List Nat := [0, 1, 3, 4, 19, 29]
theorem n77 : Try.f77.ntmps = 67 := by kernel_rfl
theorem r77 : resT Try.f77.results.toList = some [] := by kernel_rfl
theorem x77 : cmpF Try.prog Try.f77 = some (expand T77 7 X77) := by kernel_rfl
def T78n0 : XC := .seq (.ops [.mk (some 5) none (.k (.mov (.tmp 0))), .mk (some 6) none (.k (.mkfn (.func 80) [] [.tmp 3])), .mk (some 7) none (.call 79 [.tmp 5, .tmp 6]), .mk (some 4) none (.k (.mov (.tmp 7)))]) .ret
def T78 : Nat → XC
 | 0 => T78n0
 | _ => .skip
theorem t78n0 : T78 0 = T78n0 := rfl
def X78 : XC := .seq (.ops [.mk (some 3) none (.k (.box 3 1 (.tmp 1))), .mk (some 4) none (.k (.mov (.const (.int .i64 0))))]) (.ref 0)
abbrev K78 : List Nat := [0, 1, 3, 4]
theorem n78 : Try.f78.ntmps = 8 := by kernel_rfl
theorem r78 : resT Try.f78.results.toList = some [4] := by kernel_rfl
theorem x78 : cmpF Try.prog Try.f78 = some (expand T78 2 X78) := by kernel_rfl
def T79n0 : XC := .seq (.ops [.mk (some 17) none (.k (.mov (.tmp 5))), .mk (some 4) none (.k (.mov (.tmp 17)))]) .ret
def T79n1 : XC := .seq (.ops [.mk (some 11) none (.k (.mov (.tmp 1))), .mk (some 12) none (.k (.mov (.tmp 0))), .mk (some 13) none (.k (.mov (.tmp 5))), .mk (some 14) none (.k (.idx 2 (.tmp 12) (.tmp 13))), .mk (some 15) none (.k (.load [.int .i64, .int .u64] true (.tmp 14))), .mk (some 16) none (.callv (.tmp 11) [.tmp 15])]) (.cond (.tmp 16) (.ref 0) .skip)
def T79n2 : XC := .seq (.blk 1 (.seq (.ops [.mk (some 10) none (.k (.mov (.tmp 8))), .mk (some 5) none (.k (.mov (.tmp 10)))]) (.ref 1))) (.ops [.mk (some 18) none (.k (.arith .add .i64 (.tmp 8) (.const (.int .i64 1)))), .mk (some 8) none (.k (.mov (.tmp 18)))])
def T79n3 : XC := .seq (.cond (.tmp 9) .skip (.exit 0)) (.ref 2)
def T79n4 : XC := .seq (.ops [.mk (some 9) none (.k (.cmp .lss .i64 (.tmp 8) (.tmp 7)))]) (.ref 3)
def T79n5 : XC := .seq (.ops [.mk (some 4) none (.k (.mov (.const (.int .i64 (-1)))))]) .ret
def T79n6 : XC := .seq (.seq (.ops [.mk (some 6) none (.k (.mov (.tmp 0))), .mk (some 7) none (.k (.lenS (.tmp 6))), .mk (some 8) none (.k (.mov (.const (.int .i64 0))))]) (.blk 0 (.loop (.ref 4)))) (.ref 5)
def T79 : Nat → XC
 | 0 => T79n0
 | 1 => T79n1
 | 2 => T79n2
 | 3 => T79n3
 | 4 => T79n4
 | 5 => T79n5
 | 6 => T79n6
 | _ => .skip
theorem t79n0 : T79 0 = T79n0 := rfl
theorem t79n1 : T79 1 = T79n1 := rfl
theorem t79n2 : T79 2 = T79n2 := rfl
theorem t79n3 : T79 3 = T79n3 := rfl
theorem t79n4 : T79 4 = T79n4 := rfl
theorem t79n5 : T79 5 = T79n5 := rfl
theorem t79n6 : T79 6 = T79n6 := rfl
def X79 : XC := .seq (.ops [.mk (some 4) none (.k (.mov (.const (.int .i64 0))))]) (.ref 6)
abbrev K79 : List Nat := [0, 1, 4, 5, 7, 8, 9, 16]
theorem n79 : Try.f79.ntmps = 19 := by kernel_rfl
theorem r79 : resT Try.f79.results.toList = some [4] := by kernel_rfl
theorem x79 : cmpF Try.prog Try.f79 = some (expand T79 8 X79) := by kernel_rfl
def T80n0 : XC := .seq (.ops [.mk (some 4) none (.k (.fld 0 (.tmp 2))), .mk (some 5) none (.k (.load [.int .i64] false (.tmp 4))), .mk (some 6) none (.k (.load [.int .i64] false (.tmp 1))), .mk (some 7) none (.k (.cmp .eql .i64 (.tmp 5) (.tmp 6))), .mk (some 3) none (.k (.mov (.tmp 7)))]) .ret
def T80 : Nat → XC
 | 0 => T80n0
 | _ => .skip
theorem t80n0 : T80 0 = T80n0 := rfl
def X80 : XC := .seq (.ops [.mk (some 2) none (.k (.box 92 2 (.tmp 0))), .mk (some 3) none (.k (.mov (.const (.bool false))))]) (.ref 0)
abbrev K80 : List Nat := [0, 1, 2, 3]
theorem n80 : Try.f80.ntmps = 8 := by kernel_rfl
theorem r80 : resT Try.f80.results.toList = some [3] := by kernel_rfl
theorem x80 : cmpF Try.prog Try.f80 = some (expand T80 2 X80) := by kernel_rfl
end Go.Proofs.Ytnedgfkgmdoahaa
