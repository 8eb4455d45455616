/- Printed by program: the small code of functions, and that it is theirs. -/
import Derived.Test.YtbkpiljencaoeaaSxStill
import Derived.Test.YtbkpiljencaoeaaProg
import Derived.KernelRfl
set_option linter.unusedSimpArgs false
set_option linter.unusedVariables false
set_option linter.unnecessarySimpa false
namespace Go.Proofs.Ytbkpiljencaoeaa
open Go Go.Sx
set_option maxRecDepth 100000
def T39n0 : XC := .seq (.ops [.mk (some 2) none (.k (.mov (.const (.slice none 0 0)))), .mk (some 3) none (.k (.mov (.const (.int .i64 120))))]) .ret
def T39n1 : XC := .seq (.ops [.mk (some 48) none (.k (.mov (.tmp 4))), .mk (some 49) none (.k (.mov (.tmp 8))), .mk (some 50) none (.k (.buildS 94 1 1 [.pointer none] [(0, .tmp 49)])), .mk (some 51) none (.k (.app 94 1 8 (.tmp 48) (.tmp 50))), .mk (some 4) none (.k (.mov (.tmp 51)))]) (.exit 1)
def T39n2 : XC := .seq (.ops [.mk (some 44) none (.k (.mov (.tmp 5))), .mk (some 45) none (.k (.fld 2 (.tmp 7))), .mk (some 46) none (.k (.load [.int .i64] false (.tmp 45))), .mk (some 47) none (.k (.mov (.tmp 8))), .mk none none (.k (.mupd (.int .i64) (.tmp 44) (.tmp 46) (.tmp 47)))]) (.ref 1)
def T39n3 : XC := .seq (.ops [.mk (some 31) none (.k (.fld 2 (.tmp 7))), .mk (some 32) none (.k (.load [.int .i64] false (.tmp 31))), .mk (some 33) none (.k (.fld 3 (.tmp 7))), .mk (some 34) none (.k (.load [.int .i64] false (.tmp 33))), .mk (some 35) none (.k (.fld 4 (.tmp 7))), .mk (some 36) none (.k (.load [.int .i64] false (.tmp 35))), .mk (some 37) none (.k (.fld 5 (.tmp 7))), .mk (some 38) none (.k (.load [.int .i64] false (.tmp 37))), .mk (some 39) none (.k (.mov (.tmp 6))), .mk (some 40) none (.k (.build [.int .i64 0, .int .i64 0, .int .i64 0, .int .i64 0, .int .i64 0, .int .i64 0, .int .i64 0, .slice none 0 0, .slice none 0 0, .bool false, .int .i64 0] [(0, 1, .tmp 32), (1, 1, .tmp 34), (2, 1, .tmp 36), (3, 1, .tmp 38), (4, 1, .tmp 39), (5, 1, .const (.int .i64 (-1))), (6, 1, .const (.int .i64 (-1)))])), .mk (some 41) none (.k .mkmap), .mk (some 42) none (.k (.build [.int .i64 0, .int .i64 0, .int .i64 0, .int .i64 0, .int .i64 0, .int .i64 0, .int .i64 0, .slice none 0 0, .slice none 0 0, .bool false, .int .i64 0, .bool false, .map none] [(0, 11, .tmp 40), (12, 1, .tmp 41)])), .mk (some 43) none (.k (.box 114 13 (.tmp 42))), .mk (some 8) none (.k (.mov (.tmp 43)))]) (.ref 2)
def T39n4 : XC := .seq (.ops [.mk (some 29) none (.k (.mov (.tmp 8))), .mk (some 30) none (.k (.isnil NK.p false (.tmp 29))), .mk (some 28) none (.k (.mov (.tmp 30)))]) (.cond (.tmp 28) (.ref 3) .skip)
def T39n5 : XC := .ops [.mk (some 62) none (.k (.mov (.tmp 5))), .mk (some 63) none (.k (.fld 2 (.tmp 7))), .mk (some 64) none (.k (.load [.int .i64] false (.tmp 63))), .mk none none (.k (.mdel (.int .i64) (.tmp 62) (.tmp 64)))]
def T39n6 : XC := .seq (.ops [.mk (some 56) none (.k (.mov (.tmp 8))), .mk (some 57) none (.k (.nilc (.tmp 56))), .mk (some 58) none (.k (.fld 0 (.tmp 57))), .mk (some 59) none (.k (.fld 6 (.tmp 58))), .mk (some 60) none (.k (.load [.int .i64] false (.tmp 59))), .mk (some 61) none (.k (.cmp .geq .i64 (.tmp 60) (.const (.int .i64 0))))]) (.cond (.tmp 61) (.ref 5) .skip)
def T39n7 : XC := .seq (.ops [.mk (some 52) none (.k (.mov (.tmp 8))), .mk (some 53) none (.k (.mov (.tmp 6))), .mk (some 54) none (.k (.load [.int .i64, .int .i64, .int .i64, .int .i64, .int .i64, .int .i64, .int .i64, .int .u64, .int .i64] true (.tmp 7))), .mk (some 55) none (.call 63 [.tmp 52, .tmp 53, .tmp 54])]) (.ref 6)
def T39n8 : XC := .seq (.blk 2 (.seq (.ops [.mk (some 26) none (.k (.load [.int .i64, .int .i64, .int .i64, .int .i64, .int .i64, .int .i64, .int .i64, .int .u64, .int .i64] true (.tmp 7))), .mk (some 27) none (.call 62 [.tmp 26]), .mk (some 25) none (.k (.mov (.tmp 27)))]) (.cond (.tmp 25) (.exit 1) (.ref 4)))) (.ref 7)
def T39n9 : XC := .seq (.seq (.ops [.mk (some 21) none (.k (.load [.int .i64, .int .i64, .int .i64, .int .i64, .int .i64, .int .i64, .int .i64, .int .u64, .int .i64] true (.tmp 7))), .mk (some 22) none (.k (.mov (.tmp 8))), .mk (some 23) none (.call 61 [.tmp 21, .tmp 22]), .mk (some 24) none (.k (.not (.tmp 23)))]) (.cond (.tmp 24) (.ref 0) .skip)) (.ref 8)
def T39n10 : XC := .seq (.ops [.mk (some 17) none (.k (.mov (.tmp 5))), .mk (some 18) none (.k (.fld 2 (.tmp 7))), .mk (some 19) none (.k (.load [.int .i64] false (.tmp 18))), .mk (some 20) none (.k (.lkup (.int .i64) (.pointer none) false (.tmp 17) (.tmp 19))), .mk (some 8) none (.k (.mov (.tmp 20)))]) (.ref 9)
def T39n11 : XC := .seq (.blk 1 (.seq (.ops [.mk (some 14) none (.k (.mov (.tmp 12))), .mk (some 15) none (.k (.idx 9 (.tmp 10) (.tmp 12))), .mk (some 16) none (.k (.load [.int .i64, .int .i64, .int .i64, .int .i64, .int .i64, .int .i64, .int .i64, .int .u64, .int .i64] true (.tmp 15))), .mk (some 7) none (.k (.alloc 53 [.int .i64 0, .int .i64 0, .int .i64 0, .int .i64 0, .int .i64 0, .int .i64 0, .int .i64 0, .int .u64 0, .int .i64 0])), .mk (some 6) none (.k (.mov (.tmp 14))), .mk none none (.k (.store 9 (.tmp 7) (.tmp 16)))]) (.ref 10))) (.ops [.mk (some 65) none (.k (.arith .add .i64 (.tmp 12) (.const (.int .i64 1)))), .mk (some 12) none (.k (.mov (.tmp 65)))])
def T39n12 : XC := .seq (.cond (.tmp 13) .skip (.exit 0)) (.ref 11)
def T39n13 : XC := .seq (.ops [.mk (some 13) none (.k (.cmp .lss .i64 (.tmp 12) (.tmp 11)))]) (.ref 12)
def T39n14 : XC := .seq (.ops [.mk (some 66) none (.k (.mov (.tmp 4))), .mk (some 2) none (.k (.mov (.tmp 66))), .mk (some 3) none (.k (.mov (.const (.int .i64 0))))]) .ret
def T39n15 : XC := .seq (.seq (.ops [.mk (some 10) none (.k (.mov (.tmp 0))), .mk (some 11) none (.k (.lenS (.tmp 10))), .mk (some 12) none (.k (.mov (.const (.int .i64 0))))]) (.blk 0 (.loop (.ref 13)))) (.ref 14)
def T39n16 : XC := .seq (.ops [.mk (some 9) none (.k .mkmap), .mk (some 5) none (.k (.mov (.tmp 9)))]) (.seq (.lab) (.ref 15))
def T39n17 : XC := .scp (.seq (.ops [.mk (some 4) none (.k (.mov (.const (.slice none 0 0))))]) (.ref 16))
def T39 : Nat → XC
 | 0 => T39n0
 | 1 => T39n1
 | 2 => T39n2
 | 3 => T39n3
 | 4 => T39n4
 | 5 => T39n5
 | 6 => T39n6
 | 7 => T39n7
 | 8 => T39n8
 | 9 => T39n9
 | 10 => T39n10
 | 11 => T39n11
 | 12 => T39n12
 | 13 => T39n13
 | 14 => T39n14
 | 15 => T39n15
 | 16 => T39n16
 | 17 => T39n17
 | _ => .skip
theorem t39n0 : T39 0 = T39n0 := rfl
theorem t39n1 : T39 1 = T39n1 := rfl
theorem t39n2 : T39 2 = T39n2 := rfl
theorem t39n3 : T39 3 = T39n3 := rfl
theorem t39n4 : T39 4 = T39n4 := rfl
theorem t39n5 : T39 5 = T39n5 := rfl
theorem t39n6 : T39 6 = T39n6 := rfl
theorem t39n7 : T39 7 = T39n7 := rfl
theorem t39n8 : T39 8 = T39n8 := rfl
theorem t39n9 : T39 9 = T39n9 := rfl
theorem t39n10 : T39 10 = T39n10 := rfl
theorem t39n11 : T39 11 = T39n11 := rfl
theorem t39n12 : T39 12 = T39n12 := rfl
theorem t39n13 : T39 13 = T39n13 := rfl
theorem t39n14 : T39 14 = T39n14 := rfl
theorem t39n15 : T39 15 = T39n15 := rfl
theorem t39n16 : T39 16 = T39n16 := rfl
theorem t39n17 : T39 17 = T39n17 := rfl
def X39 : XC := .seq (.ops [.mk (some 2) none (.k (.mov (.const (.slice none 0 0)))), .mk (some 3) none (.k (.mov (.const (.int .i64 0))))]) (.ref 17)
abbrev K39 : List Nat := [0, 2, 3, 4, 5, 6, 7, 8, 10, 11, 12, 13, 24, 25, 28, 61]
theorem n39 : Try.f39.ntmps = 67 := by kernel_rfl
theorem r39 : resT Try.f39.results.toList = some [2, 3] := by kernel_rfl
theorem x39 : cmpF Try.prog Try.f39 = some (expand T39 19 X39) := by kernel_rfl
def T62n0 : XC := .seq (.ops [.mk (some 3) none (.k (.fld 0 (.tmp 1))), .mk (some 4) none (.k (.load [.int .i64] false (.tmp 3))), .mk (some 5) none (.k (.cmp .eql .i64 (.tmp 4) (.const (.int .i64 7)))), .mk (some 6) none (.k (.mov (.tmp 5))), .mk (some 7) (some (6, false)) (.k (.fld 0 (.tmp 1))), .mk (some 8) (some (6, false)) (.k (.load [.int .i64] false (.tmp 7))), .mk (some 9) (some (6, false)) (.k (.cmp .eql .i64 (.tmp 8) (.const (.int .i64 8)))), .mk (some 10) none (.k (.pick (.tmp 6) (.const (.bool true)) (.tmp 9))), .mk (some 2) none (.k (.mov (.tmp 10)))]) .ret
def T62 : Nat → XC
 | 0 => T62n0
 | _ => .skip
theorem t62n0 : T62 0 = T62n0 := rfl
def X62 : XC := .seq (.ops [.mk (some 1) none (.k (.box 53 9 (.tmp 0))), .mk (some 2) none (.k (.mov (.const (.bool false))))]) (.ref 0)
abbrev K62 : List Nat := [0, 1, 2]
theorem n62 : Try.f62.ntmps = 11 := by kernel_rfl
theorem r62 : resT Try.f62.results.toList = some [2] := by kernel_rfl
theorem x62 : cmpF Try.prog Try.f62 = some (expand T62 2 X62) := by kernel_rfl
def T75n0 : XC := .seq (.ops [.mk (some 3) none (.k (.mov (.tmp 0))), .mk (some 4) none (.k (.nilc (.tmp 3))), .mk (some 5) none (.k (.fld 0 (.tmp 4))), .mk (some 6) none (.k (.fld 3 (.tmp 5))), .mk (some 7) none (.k (.load [.int .i64] false (.tmp 6))), .mk (some 8) none (.k (.cmp .eql .i64 (.tmp 7) (.const (.int .i64 1)))), .mk (some 9) none (.k (.mov (.tmp 8))), .mk (some 10) (some (9, false)) (.k (.mov (.tmp 0))), .mk (some 11) (some (9, false)) (.k (.nilc (.tmp 10))), .mk (some 12) (some (9, false)) (.k (.fld 0 (.tmp 11))), .mk (some 13) (some (9, false)) (.k (.fld 3 (.tmp 12))), .mk (some 14) (some (9, false)) (.k (.load [.int .i64] false (.tmp 13))), .mk (some 15) (some (9, false)) (.k (.cmp .eql .i64 (.tmp 14) (.const (.int .i64 2)))), .mk (some 16) none (.k (.pick (.tmp 9) (.const (.bool true)) (.tmp 15))), .mk (some 2) none (.k (.mov (.tmp 16)))]) .ret
def T75 : Nat → XC
 | 0 => T75n0
 | _ => .skip
theorem t75n0 : T75 0 = T75n0 := rfl
def X75 : XC := .seq (.ops [.mk (some 2) none (.k (.mov (.const (.bool false))))]) (.ref 0)
abbrev K75 : List Nat := [0, 2]
theorem n75 : Try.f75.ntmps = 17 := by kernel_rfl
theorem r75 : resT Try.f75.results.toList = some [2] := by kernel_rfl
theorem x75 : cmpF Try.prog Try.f75 = some (expand T75 2 X75) := by kernel_rfl
def T61n0 : XC := .seq (.ops [.mk (some 4) none (.k (.mov (.const (.bool false))))]) .ret
def T61n1 : XC := .seq (.ops [.mk (some 49) none (.k (.mov (.tmp 1))), .mk (some 50) none (.k (.isnil NK.p false (.tmp 49))), .mk (some 51) none (.k (.mov (.tmp 50))), .mk (some 52) (some (51, true)) (.k (.fld 5 (.tmp 2))), .mk (some 53) (some (51, true)) (.k (.load [.int .i64] false (.tmp 52))), .mk (some 54) (some (51, true)) (.k (.cmp .geq .i64 (.tmp 53) (.const (.int .i64 1)))), .mk (some 55) none (.k (.pick (.tmp 51) (.tmp 54) (.const (.bool false)))), .mk (some 56) none (.k (.mov (.tmp 55))), .mk (some 57) (some (56, true)) (.k (.fld 5 (.tmp 2))), .mk (some 58) (some (56, true)) (.k (.load [.int .i64] false (.tmp 57))), .mk (some 59) (some (56, true)) (.k (.cmp .leq .i64 (.tmp 58) (.const (.int .i64 4)))), .mk (some 60) none (.k (.pick (.tmp 56) (.tmp 59) (.const (.bool false)))), .mk (some 61) none (.k (.mov (.tmp 60))), .mk (some 62) (some (61, true)) (.k (.fld 3 (.tmp 2))), .mk (some 63) (some (61, true)) (.k (.load [.int .i64] false (.tmp 62))), .mk (some 64) (some (61, true)) (.k (.cmp .geq .i64 (.tmp 63) (.const (.int .i64 0)))), .mk (some 65) none (.k (.pick (.tmp 61) (.tmp 64) (.const (.bool false)))), .mk (some 66) none (.k (.mov (.tmp 65))), .mk (some 67) (some (66, true)) (.k (.fld 4 (.tmp 2))), .mk (some 68) (some (66, true)) (.k (.load [.int .i64] false (.tmp 67))), .mk (some 69) (some (66, true)) (.k (.cmp .geq .i64 (.tmp 68) (.const (.int .i64 0)))), .mk (some 70) none (.k (.pick (.tmp 66) (.tmp 69) (.const (.bool false)))), .mk (some 4) none (.k (.mov (.tmp 70)))]) .ret
def T61n2 : XC := .seq (.ops [.mk (some 74) none (.k (.mov (.tmp 1))), .mk (some 75) none (.k (.isnil NK.p false (.tmp 74))), .mk (some 4) none (.k (.mov (.tmp 75)))]) .ret
def T61n3 : XC := .seq (.ops [.mk (some 4) none (.k (.mov (.const (.bool false))))]) .ret
def T61n4 : XC := .seq (.ops [.mk (some 77) none (.k (.mov (.tmp 1))), .mk (some 78) none (.k (.isnil NK.p false (.tmp 77))), .mk (some 79) none (.k (.mov (.tmp 78))), .mk (some 80) (some (79, false)) (.k (.mov (.tmp 1))), .mk (some 81) (some (79, false)) (.k (.nilc (.tmp 80))), .mk (some 82) (some (79, false)) (.k (.fld 0 (.tmp 81))), .mk (some 83) (some (79, false)) (.k (.fld 1 (.tmp 82))), .mk (some 84) (some (79, false)) (.k (.load [.int .i64] false (.tmp 83))), .mk (some 85) (some (79, false)) (.k (.fld 3 (.tmp 2))), .mk (some 86) (some (79, false)) (.k (.load [.int .i64] false (.tmp 85))), .mk (some 87) (some (79, false)) (.k (.cmp .neq .i64 (.tmp 84) (.tmp 86))), .mk (some 88) none (.k (.pick (.tmp 79) (.const (.bool true)) (.tmp 87))), .mk (some 89) none (.k (.mov (.tmp 88))), .mk (some 90) (some (89, false)) (.k (.mov (.tmp 1))), .mk (some 91) (some (89, false)) (.k (.nilc (.tmp 90))), .mk (some 92) (some (89, false)) (.k (.fld 0 (.tmp 91))), .mk (some 93) (some (89, false)) (.k (.fld 2 (.tmp 92))), .mk (some 94) (some (89, false)) (.k (.load [.int .i64] false (.tmp 93))), .mk (some 95) (some (89, false)) (.k (.fld 4 (.tmp 2))), .mk (some 96) (some (89, false)) (.k (.load [.int .i64] false (.tmp 95))), .mk (some 97) (some (89, false)) (.k (.cmp .neq .i64 (.tmp 94) (.tmp 96))), .mk (some 98) none (.k (.pick (.tmp 89) (.const (.bool true)) (.tmp 97))), .mk (some 76) none (.k (.mov (.tmp 98)))]) (.cond (.tmp 76) (.ref 3) .skip)
def T61n5 : XC := .seq (.ops [.mk (some 72) none (.k (.load [.int .i64, .int .i64, .int .i64, .int .i64, .int .i64, .int .i64, .int .i64, .int .u64, .int .i64] true (.tmp 2))), .mk (some 73) none (.call 62 [.tmp 72]), .mk (some 71) none (.k (.mov (.tmp 73)))]) (.cond (.tmp 71) (.ref 2) (.ref 4))
def T61n6 : XC := .seq (.ops [.mk (some 46) none (.k (.fld 0 (.tmp 2))), .mk (some 47) none (.k (.load [.int .i64] false (.tmp 46))), .mk (some 48) none (.k (.cmp .eql .i64 (.tmp 47) (.const (.int .i64 1)))), .mk (some 45) none (.k (.mov (.tmp 48)))]) (.cond (.tmp 45) (.ref 1) (.ref 5))
def T61n7 : XC := .seq (.ops [.mk (some 99) none (.k (.fld 0 (.tmp 2))), .mk (some 100) none (.k (.load [.int .i64] false (.tmp 99))), .mk (some 101) none (.k (.cmp .neq .i64 (.tmp 100) (.const (.int .i64 6)))), .mk (some 102) none (.k (.mov (.tmp 101))), .mk (some 103) (some (102, false)) (.k (.fld 8 (.tmp 2))), .mk (some 104) (some (102, false)) (.k (.load [.int .i64] false (.tmp 103))), .mk (some 105) (some (102, false)) (.k (.cmp .geq .i64 (.tmp 104) (.const (.int .i64 1)))), .mk (some 106) (some (102, false)) (.k (.mov (.tmp 105))), .mk (some 107) (some (106, true)) (.k (.fld 8 (.tmp 2))), .mk (some 108) (some (106, true)) (.k (.load [.int .i64] false (.tmp 107))), .mk (some 109) (some (106, true)) (.k (.cmp .leq .i64 (.tmp 108) (.const (.int .i64 8)))), .mk (some 110) (some (102, false)) (.k (.pick (.tmp 106) (.tmp 109) (.const (.bool false)))), .mk (some 111) none (.k (.pick (.tmp 102) (.const (.bool true)) (.tmp 110))), .mk (some 4) none (.k (.mov (.tmp 111)))]) .ret
def T61n8 : XC := .seq (.blk 0 (.seq (.ops [.mk (some 19) none (.k (.fld 0 (.tmp 2))), .mk (some 20) none (.k (.load [.int .i64] false (.tmp 19))), .mk (some 21) none (.k (.cmp .lss .i64 (.tmp 20) (.const (.int .i64 1)))), .mk (some 22) none (.k (.mov (.tmp 21))), .mk (some 23) (some (22, false)) (.k (.fld 0 (.tmp 2))), .mk (some 24) (some (22, false)) (.k (.load [.int .i64] false (.tmp 23))), .mk (some 25) (some (22, false)) (.k (.cmp .gtr .i64 (.tmp 24) (.const (.int .i64 8)))), .mk (some 26) none (.k (.pick (.tmp 22) (.const (.bool true)) (.tmp 25))), .mk (some 27) none (.k (.mov (.tmp 26))), .mk (some 28) (some (27, false)) (.k (.fld 2 (.tmp 2))), .mk (some 29) (some (27, false)) (.k (.load [.int .i64] false (.tmp 28))), .mk (some 30) (some (27, false)) (.k (.cmp .lss .i64 (.tmp 29) (.const (.int .i64 0)))), .mk (some 31) none (.k (.pick (.tmp 27) (.const (.bool true)) (.tmp 30))), .mk (some 32) none (.k (.mov (.tmp 31))), .mk (some 33) (some (32, false)) (.k (.fld 2 (.tmp 2))), .mk (some 34) (some (32, false)) (.k (.load [.int .i64] false (.tmp 33))), .mk (some 35) (some (32, false)) (.k (.cmp .geq .i64 (.tmp 34) (.const (.int .i64 4)))), .mk (some 36) none (.k (.pick (.tmp 32) (.const (.bool true)) (.tmp 35))), .mk (some 37) none (.k (.mov (.tmp 36))), .mk (some 38) (some (37, false)) (.k (.mov (.tmp 5))), .mk (some 39) (some (37, false)) (.k (.mov (.tmp 38))), .mk (some 40) (some (39, true)) (.k (.fld 6 (.tmp 2))), .mk (some 41) (some (39, true)) (.k (.load [.int .i64] false (.tmp 40))), .mk (some 42) (some (39, true)) (.k (.cmp .lss .i64 (.tmp 41) (.const (.int .i64 0)))), .mk (some 43) (some (37, false)) (.k (.pick (.tmp 39) (.tmp 42) (.const (.bool false)))), .mk (some 44) none (.k (.pick (.tmp 37) (.const (.bool true)) (.tmp 43))), .mk (some 18) none (.k (.mov (.tmp 44)))]) (.cond (.tmp 18) (.ref 0) (.ref 6)))) (.ref 7)
def T61n9 : XC := .seq (.ops [.mk (some 6) none (.k (.fld 0 (.tmp 2))), .mk (some 7) none (.k (.load [.int .i64] false (.tmp 6))), .mk (some 8) none (.k (.cmp .eql .i64 (.tmp 7) (.const (.int .i64 2)))), .mk (some 9) none (.k (.mov (.tmp 8))), .mk (some 10) (some (9, false)) (.k (.fld 0 (.tmp 2))), .mk (some 11) (some (9, false)) (.k (.load [.int .i64] false (.tmp 10))), .mk (some 12) (some (9, false)) (.k (.cmp .eql .i64 (.tmp 11) (.const (.int .i64 3)))), .mk (some 13) none (.k (.pick (.tmp 9) (.const (.bool true)) (.tmp 12))), .mk (some 14) none (.k (.mov (.tmp 13))), .mk (some 15) (some (14, false)) (.k (.load [.int .i64, .int .i64, .int .i64, .int .i64, .int .i64, .int .i64, .int .i64, .int .u64, .int .i64] true (.tmp 2))), .mk (some 16) (some (14, false)) (.call 62 [.tmp 15]), .mk (some 17) none (.k (.pick (.tmp 14) (.const (.bool true)) (.tmp 16))), .mk (some 5) none (.k (.mov (.tmp 17)))]) (.ref 8)
def T61 : Nat → XC
 | 0 => T61n0
 | 1 => T61n1
 | 2 => T61n2
 | 3 => T61n3
 | 4 => T61n4
 | 5 => T61n5
 | 6 => T61n6
 | 7 => T61n7
 | 8 => T61n8
 | 9 => T61n9
 | _ => .skip
theorem t61n0 : T61 0 = T61n0 := rfl
theorem t61n1 : T61 1 = T61n1 := rfl
theorem t61n2 : T61 2 = T61n2 := rfl
theorem t61n3 : T61 3 = T61n3 := rfl
theorem t61n4 : T61 4 = T61n4 := rfl
theorem t61n5 : T61 5 = T61n5 := rfl
theorem t61n6 : T61 6 = T61n6 := rfl
theorem t61n7 : T61 7 = T61n7 := rfl
theorem t61n8 : T61 8 = T61n8 := rfl
theorem t61n9 : T61 9 = T61n9 := rfl
def X61 : XC := .seq (.ops [.mk (some 2) none (.k (.box 53 9 (.tmp 0))), .mk (some 4) none (.k (.mov (.const (.bool false))))]) (.ref 9)
abbrev K61 : List Nat := [0, 1, 2, 4, 5, 18, 45, 71, 76]
theorem n61 : Try.f61.ntmps = 112 := by kernel_rfl
theorem r61 : resT Try.f61.results.toList = some [4] := by kernel_rfl
theorem x61 : cmpF Try.prog Try.f61 = some (expand T61 11 X61) := by kernel_rfl
def T63n0 : XC := .ops [.mk (some 16) none (.k (.mov (.tmp 0))), .mk (some 17) none (.k (.mov (.tmp 1))), .mk (some 18) none (.k (.nilc (.tmp 16))), .mk (some 19) none (.k (.fld 0 (.tmp 18))), .mk (some 20) none (.k (.fld 5 (.tmp 19))), .mk none none (.k (.store 1 (.tmp 20) (.tmp 17)))]
def T63n1 : XC := .seq (.ops [.mk (some 14) none (.k (.mov (.tmp 0))), .mk (some 15) none (.call 75 [.tmp 14])]) (.cond (.tmp 15) (.ref 0) .skip)
def T63n2 : XC := .seq (.ops [.mk (some 11) none (.k (.mov (.tmp 0))), .mk (some 12) none (.k (.load [.int .i64, .int .i64, .int .i64, .int .i64, .int .i64, .int .i64, .int .i64, .int .u64, .int .i64] true (.tmp 5))), .mk (some 13) none (.call 74 [.tmp 11, .tmp 12])]) (.ref 1)
def T63n3 : XC := .seq (.ops [.mk (some 39) none (.k (.mov (.tmp 0))), .mk (some 40) none (.k (.nilc (.tmp 39))), .mk (some 41) none (.k (.fld 0 (.tmp 40))), .mk (some 42) none (.k (.fld 8 (.tmp 41))), .mk (some 43) none (.k (.load [.slc] false (.tmp 42))), .mk (some 44) none (.k (.mov (.tmp 6))), .mk (some 45) none (.k (.fld 7 (.tmp 5))), .mk (some 46) none (.k (.load [.int .u64] false (.tmp 45))), .mk (some 47) none (.k (.idx 2 (.tmp 43) (.tmp 44))), .mk (some 48) none (.k (.fld 1 (.tmp 47))), .mk none none (.k (.store 1 (.tmp 48) (.tmp 46)))]) .ret
def T63n4 : XC := .seq (.ops [.mk (some 37) none (.k (.mov (.tmp 6))), .mk (some 38) none (.k (.cmp .geq .i64 (.tmp 37) (.const (.int .i64 0))))]) (.cond (.tmp 38) (.ref 3) .skip)
def T63n5 : XC := .ops [.mk (some 49) none (.k (.mov (.tmp 0))), .mk (some 50) none (.k (.mov (.tmp 0))), .mk (some 51) none (.k (.nilc (.tmp 50))), .mk (some 52) none (.k (.fld 0 (.tmp 51))), .mk (some 53) none (.k (.fld 8 (.tmp 52))), .mk (some 54) none (.k (.load [.slc] false (.tmp 53))), .mk (some 55) none (.k (.fld 6 (.tmp 5))), .mk (some 56) none (.k (.load [.int .i64] false (.tmp 55))), .mk (some 57) none (.k (.fld 7 (.tmp 5))), .mk (some 58) none (.k (.load [.int .u64] false (.tmp 57))), .mk (some 59) none (.k (.build [.int .i64 0, .int .u64 0] [(0, 1, .tmp 56), (1, 1, .tmp 58)])), .mk (some 60) none (.k (.buildS 85 1 2 [.int .i64 0, .int .u64 0] [(0, .tmp 59)])), .mk (some 61) none (.k (.app 85 2 16 (.tmp 54) (.tmp 60))), .mk (some 62) none (.k (.nilc (.tmp 49))), .mk (some 63) none (.k (.fld 0 (.tmp 62))), .mk (some 64) none (.k (.fld 8 (.tmp 63))), .mk none none (.k (.store 1 (.tmp 64) (.tmp 61)))]
def T63n6 : XC := .seq (.seq (.ops [.mk (some 29) none (.k (.mov (.tmp 0))), .mk (some 30) none (.k (.nilc (.tmp 29))), .mk (some 31) none (.k (.fld 0 (.tmp 30))), .mk (some 32) none (.k (.fld 8 (.tmp 31))), .mk (some 33) none (.k (.load [.slc] false (.tmp 32))), .mk (some 34) none (.k (.fld 6 (.tmp 5))), .mk (some 35) none (.k (.load [.int .i64] false (.tmp 34))), .mk (some 36) none (.call 76 [.tmp 33, .tmp 35]), .mk (some 6) none (.k (.mov (.tmp 36)))]) (.ref 4)) (.ref 5)
def T63n7 : XC := .seq (.ops [.mk (some 23) none (.k (.mov (.tmp 0))), .mk (some 24) none (.k (.nilc (.tmp 23))), .mk (some 25) none (.k (.fld 12 (.tmp 24))), .mk (some 26) none (.k (.load [.map] false (.tmp 25))), .mk (some 27) none (.k (.fld 6 (.tmp 5))), .mk (some 28) none (.k (.load [.int .i64] false (.tmp 27))), .mk none none (.k (.mupd (.int .i64) (.tmp 26) (.tmp 28) (.const (.int .i64 1))))]) (.ref 6)
def T63n8 : XC := .ops [.mk (some 70) none (.k (.mov (.tmp 0))), .mk (some 71) none (.k (.mov (.tmp 1))), .mk (some 72) none (.k (.nilc (.tmp 70))), .mk (some 73) none (.k (.fld 0 (.tmp 72))), .mk (some 74) none (.k (.fld 5 (.tmp 73))), .mk none none (.k (.store 1 (.tmp 74) (.tmp 71)))]
def T63n9 : XC := .seq (.ops [.mk (some 67) none (.k (.mov (.tmp 0))), .mk (some 68) none (.call 75 [.tmp 67]), .mk (some 69) none (.k (.not (.tmp 68)))]) (.cond (.tmp 69) (.ref 8) .skip)
def T63n10 : XC := .ops [.mk (some 88) none (.k (.mov (.tmp 0))), .mk (some 89) none (.k (.mov (.tmp 1))), .mk (some 90) none (.k (.nilc (.tmp 88))), .mk (some 91) none (.k (.fld 0 (.tmp 90))), .mk (some 92) none (.k (.fld 5 (.tmp 91))), .mk none none (.k (.store 1 (.tmp 92) (.tmp 89)))]
def T63n11 : XC := .seq (.ops [.mk (some 86) none (.k (.mov (.tmp 0))), .mk (some 87) none (.call 75 [.tmp 86])]) (.cond (.tmp 87) (.ref 10) .skip)
def T63n12 : XC := .seq (.ops [.mk (some 77) none (.k (.mov (.tmp 0))), .mk (some 78) none (.k (.mov (.tmp 0))), .mk (some 79) none (.k (.mov (.tmp 1))), .mk (some 80) none (.k (.nilc (.tmp 77))), .mk (some 81) none (.k (.fld 0 (.tmp 80))), .mk (some 82) none (.k (.fld 6 (.tmp 81))), .mk none none (.k (.store 1 (.tmp 82) (.tmp 79))), .mk (some 83) none (.k (.nilc (.tmp 78))), .mk (some 84) none (.k (.fld 0 (.tmp 83))), .mk (some 85) none (.k (.fld 9 (.tmp 84))), .mk none none (.k (.store 1 (.tmp 85) (.const (.bool true))))]) (.ref 11)
def T63n13 : XC := .ops [.mk (some 95) none (.k (.mov (.tmp 0))), .mk (some 96) none (.k (.mov (.tmp 0))), .mk (some 97) none (.k (.mov (.tmp 1))), .mk (some 98) none (.k (.fld 8 (.tmp 5))), .mk (some 99) none (.k (.load [.int .i64] false (.tmp 98))), .mk (some 100) none (.k (.nilc (.tmp 95))), .mk (some 101) none (.k (.fld 0 (.tmp 100))), .mk (some 102) none (.k (.fld 6 (.tmp 101))), .mk none none (.k (.store 1 (.tmp 102) (.tmp 97))), .mk none none (.still 99 (.load [.int .i64] false (.tmp 98))), .mk (some 103) none (.k (.nilc (.tmp 96))), .mk (some 104) none (.k (.fld 0 (.tmp 103))), .mk (some 105) none (.k (.fld 10 (.tmp 104))), .mk none none (.k (.store 1 (.tmp 105) (.tmp 99)))]
def T63n14 : XC := .seq (.ops [.mk (some 94) none (.k (.cmp .eql .i64 (.tmp 8) (.const (.int .i64 6)))), .mk (some 93) none (.k (.mov (.tmp 94)))]) (.cond (.tmp 93) (.ref 13) .skip)
def T63n15 : XC := .seq (.ops [.mk (some 76) none (.k (.cmp .eql .i64 (.tmp 8) (.const (.int .i64 5)))), .mk (some 75) none (.k (.mov (.tmp 76)))]) (.cond (.tmp 75) (.ref 12) (.ref 14))
def T63n16 : XC := .seq (.ops [.mk (some 66) none (.k (.cmp .eql .i64 (.tmp 8) (.const (.int .i64 4)))), .mk (some 65) none (.k (.mov (.tmp 66)))]) (.cond (.tmp 65) (.ref 9) (.ref 15))
def T63n17 : XC := .seq (.ops [.mk (some 22) none (.k (.cmp .eql .i64 (.tmp 8) (.const (.int .i64 3)))), .mk (some 21) none (.k (.mov (.tmp 22)))]) (.cond (.tmp 21) (.ref 7) (.ref 16))
def T63n18 : XC := .blk 0 (.seq (.ops [.mk (some 10) none (.k (.cmp .eql .i64 (.tmp 8) (.const (.int .i64 2)))), .mk (some 9) none (.k (.mov (.tmp 10)))]) (.cond (.tmp 9) (.ref 2) (.ref 17)))
def T63n19 : XC := .seq (.ops [.mk (some 7) none (.k (.fld 0 (.tmp 5))), .mk (some 8) none (.k (.load [.int .i64] false (.tmp 7)))]) (.ref 18)
def T63 : Nat → XC
 | 0 => T63n0
 | 1 => T63n1
 | 2 => T63n2
 | 3 => T63n3
 | 4 => T63n4
 | 5 => T63n5
 | 6 => T63n6
 | 7 => T63n7
 | 8 => T63n8
 | 9 => T63n9
 | 10 => T63n10
 | 11 => T63n11
 | 12 => T63n12
 | 13 => T63n13
 | 14 => T63n14
 | 15 => T63n15
 | 16 => T63n16
 | 17 => T63n17
 | 18 => T63n18
 | 19 => T63n19
 | _ => .skip
theorem t63n0 : T63 0 = T63n0 := rfl
theorem t63n1 : T63 1 = T63n1 := rfl
theorem t63n2 : T63 2 = T63n2 := rfl
theorem t63n3 : T63 3 = T63n3 := rfl
theorem t63n4 : T63 4 = T63n4 := rfl
theorem t63n5 : T63 5 = T63n5 := rfl
theorem t63n6 : T63 6 = T63n6 := rfl
theorem t63n7 : T63 7 = T63n7 := rfl
theorem t63n8 : T63 8 = T63n8 := rfl
theorem t63n9 : T63 9 = T63n9 := rfl
theorem t63n10 : T63 10 = T63n10 := rfl
theorem t63n11 : T63 11 = T63n11 := rfl
theorem t63n12 : T63 12 = T63n12 := rfl
theorem t63n13 : T63 13 = T63n13 := rfl
theorem t63n14 : T63 14 = T63n14 := rfl
theorem t63n15 : T63 15 = T63n15 := rfl
theorem t63n16 : T63 16 = T63n16 := rfl
theorem t63n17 : T63 17 = T63n17 := rfl
theorem t63n18 : T63 18 = T63n18 := rfl
theorem t63n19 : T63 19 = T63n19 := rfl
def X63 : XC := .seq (.ops [.mk (some 5) none (.k (.box 53 9 (.tmp 2)))]) (.ref 19)
abbrev K63 : List Nat := [0, 1, 2, 5, 6, 8, 9, 15, 21, 38, 65, 69, 75, 87, 93]
theorem n63 : Try.f63.ntmps = 106 := by kernel_rfl
theorem r63 : resT Try.f63.results.toList = some [] := by kernel_rfl
theorem x63 : cmpF Try.prog Try.f63 = some (expand T63 21 X63) := by kernel_rfl
def T74n0 : XC := .seq (.ops [.mk (some 30) none (.k (.mov (.tmp 0))), .mk (some 31) none (.k (.mov (.tmp 0))), .mk (some 32) none (.k (.nilc (.tmp 31))), .mk (some 33) none (.k (.fld 11 (.tmp 32))), .mk (some 34) none (.k (.load [.bool] false (.tmp 33))), .mk (some 35) none (.k (.mov (.tmp 34))), .mk (some 36) (some (35, false)) (.k (.mov (.tmp 0))), .mk (some 37) (some (35, false)) (.k (.nilc (.tmp 36))), .mk (some 38) (some (35, false)) (.k (.fld 0 (.tmp 37))), .mk (some 39) (some (35, false)) (.k (.fld 7 (.tmp 38))), .mk (some 40) (some (35, false)) (.k (.load [.slc] false (.tmp 39))), .mk (some 41) (some (35, false)) (.k (.mov (.tmp 4))), .mk (some 42) (some (35, false)) (.k (.idx 2 (.tmp 40) (.tmp 41))), .mk (some 43) (some (35, false)) (.k (.fld 1 (.tmp 42))), .mk (some 44) (some (35, false)) (.k (.load [.int .u64] false (.tmp 43))), .mk (some 45) (some (35, false)) (.k (.fld 7 (.tmp 3))), .mk (some 46) (some (35, false)) (.k (.load [.int .u64] false (.tmp 45))), .mk (some 47) (some (35, false)) (.k (.cmp .neq .u64 (.tmp 44) (.tmp 46))), .mk (some 48) none (.k (.pick (.tmp 35) (.const (.bool true)) (.tmp 47))), .mk (some 49) none (.k (.nilc (.tmp 30))), .mk (some 50) none (.k (.fld 11 (.tmp 49))), .mk none none (.k (.store 1 (.tmp 50) (.tmp 48)))]) .ret
def T74n1 : XC := .seq (.ops [.mk (some 28) none (.k (.mov (.tmp 4))), .mk (some 29) none (.k (.cmp .geq .i64 (.tmp 28) (.const (.int .i64 0))))]) (.cond (.tmp 29) (.ref 0) .skip)
def T74n2 : XC := .ops [.mk (some 51) none (.k (.mov (.tmp 0))), .mk (some 52) none (.k (.mov (.tmp 0))), .mk (some 53) none (.k (.nilc (.tmp 52))), .mk (some 54) none (.k (.fld 0 (.tmp 53))), .mk (some 55) none (.k (.fld 7 (.tmp 54))), .mk (some 56) none (.k (.load [.slc] false (.tmp 55))), .mk (some 57) none (.k (.fld 6 (.tmp 3))), .mk (some 58) none (.k (.load [.int .i64] false (.tmp 57))), .mk (some 59) none (.k (.fld 7 (.tmp 3))), .mk (some 60) none (.k (.load [.int .u64] false (.tmp 59))), .mk (some 61) none (.k (.build [.int .i64 0, .int .u64 0] [(0, 1, .tmp 58), (1, 1, .tmp 60)])), .mk (some 62) none (.k (.buildS 85 1 2 [.int .i64 0, .int .u64 0] [(0, .tmp 61)])), .mk (some 63) none (.k (.app 85 2 16 (.tmp 56) (.tmp 62))), .mk (some 64) none (.k (.nilc (.tmp 51))), .mk (some 65) none (.k (.fld 0 (.tmp 64))), .mk (some 66) none (.k (.fld 7 (.tmp 65))), .mk none none (.k (.store 1 (.tmp 66) (.tmp 63)))]
def T74n3 : XC := .seq (.seq (.ops [.mk (some 20) none (.k (.mov (.tmp 0))), .mk (some 21) none (.k (.nilc (.tmp 20))), .mk (some 22) none (.k (.fld 0 (.tmp 21))), .mk (some 23) none (.k (.fld 7 (.tmp 22))), .mk (some 24) none (.k (.load [.slc] false (.tmp 23))), .mk (some 25) none (.k (.fld 6 (.tmp 3))), .mk (some 26) none (.k (.load [.int .i64] false (.tmp 25))), .mk (some 27) none (.call 76 [.tmp 24, .tmp 26]), .mk (some 4) none (.k (.mov (.tmp 27)))]) (.ref 1)) (.ref 2)
def T74n4 : XC := .seq (.seq (.ops [.mk (some 11) none (.k (.mov (.tmp 0))), .mk (some 12) none (.k (.nilc (.tmp 11))), .mk (some 13) none (.k (.fld 0 (.tmp 12))), .mk (some 14) none (.k (.fld 8 (.tmp 13))), .mk (some 15) none (.k (.load [.slc] false (.tmp 14))), .mk (some 16) none (.k (.fld 6 (.tmp 3))), .mk (some 17) none (.k (.load [.int .i64] false (.tmp 16))), .mk (some 18) none (.call 76 [.tmp 15, .tmp 17]), .mk (some 19) none (.k (.cmp .geq .i64 (.tmp 18) (.const (.int .i64 0))))]) (.cond (.tmp 19) .ret .skip)) (.ref 3)
def T74n5 : XC := .seq (.ops [.mk (some 5) none (.k (.mov (.tmp 0))), .mk (some 6) none (.k (.nilc (.tmp 5))), .mk (some 7) none (.k (.fld 12 (.tmp 6))), .mk (some 8) none (.k (.load [.map] false (.tmp 7))), .mk (some 9) none (.k (.fld 6 (.tmp 3))), .mk (some 10) none (.k (.load [.int .i64] false (.tmp 9))), .mk none none (.k (.mupd (.int .i64) (.tmp 8) (.tmp 10) (.const (.int .i64 1))))]) (.ref 4)
def T74 : Nat → XC
 | 0 => T74n0
 | 1 => T74n1
 | 2 => T74n2
 | 3 => T74n3
 | 4 => T74n4
 | 5 => T74n5
 | _ => .skip
theorem t74n0 : T74 0 = T74n0 := rfl
theorem t74n1 : T74 1 = T74n1 := rfl
theorem t74n2 : T74 2 = T74n2 := rfl
theorem t74n3 : T74 3 = T74n3 := rfl
theorem t74n4 : T74 4 = T74n4 := rfl
theorem t74n5 : T74 5 = T74n5 := rfl
def X74 : XC := .seq (.ops [.mk (some 3) none (.k (.box 53 9 (.tmp 1)))]) (.ref 5)
abbrev K74 : List Nat := [0, 1, 3, 4, 19, 29]
theorem n74 : Try.f74.ntmps = 67 := by kernel_rfl
theorem r74 : resT Try.f74.results.toList = some [] := by kernel_rfl
theorem x74 : cmpF Try.prog Try.f74 = some (expand T74 7 X74) := by kernel_rfl
def T76n0 : XC := .seq (.ops [.mk (some 5) none (.k (.mov (.tmp 0))), .mk (some 6) none (.k (.mkfn (.func 90) [] [.tmp 3])), .mk (some 7) none (.call 70 [.tmp 5, .tmp 6]), .mk (some 4) none (.k (.mov (.tmp 7)))]) .ret
def T76 : Nat → XC
 | 0 => T76n0
 | _ => .skip
theorem t76n0 : T76 0 = T76n0 := rfl
def X76 : XC := .seq (.ops [.mk (some 3) none (.k (.box 3 1 (.tmp 1))), .mk (some 4) none (.k (.mov (.const (.int .i64 0))))]) (.ref 0)
abbrev K76 : List Nat := [0, 1, 3, 4]
theorem n76 : Try.f76.ntmps = 8 := by kernel_rfl
theorem r76 : resT Try.f76.results.toList = some [4] := by kernel_rfl
theorem x76 : cmpF Try.prog Try.f76 = some (expand T76 2 X76) := by kernel_rfl
def T70n0 : XC := .seq (.ops [.mk (some 17) none (.k (.mov (.tmp 5))), .mk (some 4) none (.k (.mov (.tmp 17)))]) .ret
def T70n1 : XC := .seq (.ops [.mk (some 11) none (.k (.mov (.tmp 1))), .mk (some 12) none (.k (.mov (.tmp 0))), .mk (some 13) none (.k (.mov (.tmp 5))), .mk (some 14) none (.k (.idx 2 (.tmp 12) (.tmp 13))), .mk (some 15) none (.k (.load [.int .i64, .int .u64] true (.tmp 14))), .mk (some 16) none (.callv (.tmp 11) [.tmp 15])]) (.cond (.tmp 16) (.ref 0) .skip)
def T70n2 : XC := .seq (.blk 1 (.seq (.ops [.mk (some 10) none (.k (.mov (.tmp 8))), .mk (some 5) none (.k (.mov (.tmp 10)))]) (.ref 1))) (.ops [.mk (some 18) none (.k (.arith .add .i64 (.tmp 8) (.const (.int .i64 1)))), .mk (some 8) none (.k (.mov (.tmp 18)))])
def T70n3 : XC := .seq (.cond (.tmp 9) .skip (.exit 0)) (.ref 2)
def T70n4 : XC := .seq (.ops [.mk (some 9) none (.k (.cmp .lss .i64 (.tmp 8) (.tmp 7)))]) (.ref 3)
def T70n5 : XC := .seq (.ops [.mk (some 4) none (.k (.mov (.const (.int .i64 (-1)))))]) .ret
def T70n6 : XC := .seq (.seq (.ops [.mk (some 6) none (.k (.mov (.tmp 0))), .mk (some 7) none (.k (.lenS (.tmp 6))), .mk (some 8) none (.k (.mov (.const (.int .i64 0))))]) (.blk 0 (.loop (.ref 4)))) (.ref 5)
def T70 : Nat → XC
 | 0 => T70n0
 | 1 => T70n1
 | 2 => T70n2
 | 3 => T70n3
 | 4 => T70n4
 | 5 => T70n5
 | 6 => T70n6
 | _ => .skip
theorem t70n0 : T70 0 = T70n0 := rfl
theorem t70n1 : T70 1 = T70n1 := rfl
theorem t70n2 : T70 2 = T70n2 := rfl
theorem t70n3 : T70 3 = T70n3 := rfl
theorem t70n4 : T70 4 = T70n4 := rfl
theorem t70n5 : T70 5 = T70n5 := rfl
theorem t70n6 : T70 6 = T70n6 := rfl
def X70 : XC := .seq (.ops [.mk (some 4) none (.k (.mov (.const (.int .i64 0))))]) (.ref 6)
abbrev K70 : List Nat := [0, 1, 4, 5, 7, 8, 9, 16]
theorem n70 : Try.f70.ntmps = 19 := by kernel_rfl
theorem r70 : resT Try.f70.results.toList = some [4] := by kernel_rfl
theorem x70 : cmpF Try.prog Try.f70 = some (expand T70 8 X70) := by kernel_rfl
def T90n0 : XC := .seq (.ops [.mk (some 4) none (.k (.fld 0 (.tmp 2))), .mk (some 5) none (.k (.load [.int .i64] false (.tmp 4))), .mk (some 6) none (.k (.load [.int .i64] false (.tmp 1))), .mk (some 7) none (.k (.cmp .eql .i64 (.tmp 5) (.tmp 6))), .mk (some 3) none (.k (.mov (.tmp 7)))]) .ret
def T90 : Nat → XC
 | 0 => T90n0
 | _ => .skip
theorem t90n0 : T90 0 = T90n0 := rfl
def X90 : XC := .seq (.ops [.mk (some 2) none (.k (.box 85 2 (.tmp 0))), .mk (some 3) none (.k (.mov (.const (.bool false))))]) (.ref 0)
abbrev K90 : List Nat := [0, 1, 2, 3]
theorem n90 : Try.f90.ntmps = 8 := by kernel_rfl
theorem r90 : resT Try.f90.results.toList = some [3] := by kernel_rfl
theorem x90 : cmpF Try.prog Try.f90 = some (expand T90 2 X90) := by kernel_rfl
end Go.Proofs.Ytbkpiljencaoeaa
