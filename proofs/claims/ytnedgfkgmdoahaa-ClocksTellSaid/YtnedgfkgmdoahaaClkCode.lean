/- Printed by program: the small code of functions, and that it is theirs. -/
import Derived.Test.YtnedgfkgmdoahaaSxStill
import Derived.Test.YtnedgfkgmdoahaaProg
import Derived.KernelRfl
set_option linter.unusedSimpArgs false
set_option linter.unusedVariables false
set_option linter.unnecessarySimpa false
namespace Go.Proofs.Ytnedgfkgmdoahaa
open Go Go.Sx
set_option maxRecDepth 100000
def T3n0 : XC := .seq (.ops [.mk (some 19) none (.k (.mov (.tmp 5))), .mk (some 4) none (.k (.mov (.tmp 19)))]) .ret
def T3n1 : XC := .seq (.ops [.mk (some 38) none (.k (.mov (.tmp 5))), .mk (some 4) none (.k (.mov (.tmp 38)))]) .ret
def T3n2 : XC := .ops [.mk (some 71) none (.k (.mov (.tmp 6))), .mk (some 72) none (.k (.mov (.tmp 8))), .mk (some 73) none (.k (.fld 1 (.tmp 10))), .mk (some 74) none (.k (.load [.int .i64] false (.tmp 73))), .mk (some 75) none (.k (.fld 2 (.tmp 10))), .mk (some 76) none (.k (.load [.int .i64] false (.tmp 75))), .mk (some 77) none (.k (.bits .and .i64 (.tmp 76) (.const (.int .i64 255)))), .mk (some 78) none (.call 16 [.tmp 72, .tmp 74, .tmp 77]), .mk (some 79) none (.k (.buildS 29 1 3 [.int .i64 0, .int .i64 0, .int .i64 0] [(0, .tmp 78)])), .mk (some 80) none (.k (.app 29 3 24 (.tmp 71) (.tmp 79))), .mk (some 6) none (.k (.mov (.tmp 80)))]
def T3n3 : XC := .seq (.ops [.mk (some 63) none (.k (.fld 1 (.tmp 10))), .mk (some 64) none (.k (.load [.int .i64] false (.tmp 63))), .mk (some 65) none (.k (.cmp .eql .i64 (.tmp 64) (.const (.int .i64 1)))), .mk (some 66) none (.k (.mov (.tmp 65))), .mk (some 67) (some (66, false)) (.k (.fld 1 (.tmp 10))), .mk (some 68) (some (66, false)) (.k (.load [.int .i64] false (.tmp 67))), .mk (some 69) (some (66, false)) (.k (.cmp .eql .i64 (.tmp 68) (.const (.int .i64 2)))), .mk (some 70) none (.k (.pick (.tmp 66) (.const (.bool true)) (.tmp 69)))]) (.cond (.tmp 70) (.ref 2) .skip)
def T3n4 : XC := .seq (.ops [.mk (some 55) none (.k (.mov (.tmp 0))), .mk (some 56) none (.k (.mov (.tmp 7))), .mk (some 57) none (.k (.idx 2 (.tmp 55) (.tmp 56))), .mk (some 58) none (.k (.fld 1 (.tmp 57))), .mk (some 59) none (.k (.load [.slc] false (.tmp 58))), .mk (some 60) none (.k (.mov (.tmp 9))), .mk (some 61) none (.k (.idx 3 (.tmp 59) (.tmp 60))), .mk (some 62) none (.k (.load [.int .i64, .int .i64, .int .i64] true (.tmp 61))), .mk (some 10) none (.k (.alloc 29 [.int .i64 0, .int .i64 0, .int .i64 0])), .mk none none (.k (.store 3 (.tmp 10) (.tmp 62)))]) (.ref 3)
def T3n5 : XC := .seq (.blk 3 (.seq (.ops [.mk (some 54) none (.k (.mov (.tmp 52))), .mk (some 9) none (.k (.mov (.tmp 54)))]) (.ref 4))) (.ops [.mk (some 81) none (.k (.arith .add .i64 (.tmp 52) (.const (.int .i64 1)))), .mk (some 52) none (.k (.mov (.tmp 81)))])
def T3n6 : XC := .seq (.cond (.tmp 53) .skip (.exit 2)) (.ref 5)
def T3n7 : XC := .seq (.ops [.mk (some 53) none (.k (.cmp .lss .i64 (.tmp 52) (.tmp 51)))]) (.ref 6)
def T3n8 : XC := .ops [.mk (some 82) none (.k (.mov (.tmp 6))), .mk (some 83) none (.k (.mov (.tmp 8))), .mk (some 84) none (.k (.mov (.tmp 1))), .mk (some 85) none (.k (.conv .i64 (.tmp 84))), .mk (some 86) none (.call 16 [.tmp 83, .const (.int .i64 3), .tmp 85]), .mk (some 87) none (.k (.buildS 29 1 3 [.int .i64 0, .int .i64 0, .int .i64 0] [(0, .tmp 86)])), .mk (some 88) none (.k (.app 29 3 24 (.tmp 82) (.tmp 87))), .mk (some 6) none (.k (.mov (.tmp 88)))]
def T3n9 : XC := .seq (.seq (.ops [.mk (some 46) none (.k (.mov (.tmp 0))), .mk (some 47) none (.k (.mov (.tmp 7))), .mk (some 48) none (.k (.idx 2 (.tmp 46) (.tmp 47))), .mk (some 49) none (.k (.fld 1 (.tmp 48))), .mk (some 50) none (.k (.load [.slc] false (.tmp 49))), .mk (some 51) none (.k (.lenS (.tmp 50))), .mk (some 52) none (.k (.mov (.const (.int .i64 0))))]) (.blk 2 (.loop (.ref 7)))) (.ref 8)
def T3n10 : XC := .seq (.ops [.mk (some 39) none (.k (.mov (.tmp 6))), .mk (some 40) none (.k (.mov (.tmp 8))), .mk (some 41) none (.k (.mov (.tmp 1))), .mk (some 42) none (.k (.conv .i64 (.tmp 41))), .mk (some 43) none (.call 16 [.tmp 40, .const (.int .i64 4), .tmp 42]), .mk (some 44) none (.k (.buildS 29 1 3 [.int .i64 0, .int .i64 0, .int .i64 0] [(0, .tmp 43)])), .mk (some 45) none (.k (.app 29 3 24 (.tmp 39) (.tmp 44))), .mk (some 6) none (.k (.mov (.tmp 45)))]) (.ref 9)
def T3n11 : XC := .seq (.seq (.ops [.mk (some 31) none (.k (.mov (.tmp 0))), .mk (some 32) none (.k (.mov (.tmp 7))), .mk (some 33) none (.k (.idx 2 (.tmp 31) (.tmp 32))), .mk (some 34) none (.k (.fld 1 (.tmp 33))), .mk (some 35) none (.k (.load [.slc] false (.tmp 34))), .mk (some 36) none (.k (.lenS (.tmp 35))), .mk (some 37) none (.k (.cmp .gtr .i64 (.tmp 36) (.const (.int .i64 8))))]) (.cond (.tmp 37) (.ref 1) .skip)) (.ref 10)
def T3n12 : XC := .seq (.ops [.mk (some 25) none (.k (.mov (.tmp 0))), .mk (some 26) none (.k (.mov (.tmp 7))), .mk (some 27) none (.k (.idx 2 (.tmp 25) (.tmp 26))), .mk (some 28) none (.k (.fld 0 (.tmp 27))), .mk (some 29) none (.k (.load [.int .i64] false (.tmp 28))), .mk (some 30) none (.k (.bits .and .i64 (.tmp 29) (.const (.int .i64 3)))), .mk (some 8) none (.k (.mov (.tmp 30)))]) (.ref 11)
def T3n13 : XC := .seq (.blk 1 (.seq (.ops [.mk (some 24) none (.k (.mov (.tmp 22))), .mk (some 7) none (.k (.mov (.tmp 24)))]) (.ref 12))) (.ops [.mk (some 89) none (.k (.arith .add .i64 (.tmp 22) (.const (.int .i64 1)))), .mk (some 22) none (.k (.mov (.tmp 89)))])
def T3n14 : XC := .seq (.cond (.tmp 23) .skip (.exit 0)) (.ref 13)
def T3n15 : XC := .seq (.ops [.mk (some 23) none (.k (.cmp .lss .i64 (.tmp 22) (.tmp 21)))]) (.ref 14)
def T3n16 : XC := .seq (.ops [.mk (some 90) none (.k (.mov (.tmp 5))), .mk (some 91) none (.k (.mov (.tmp 90))), .mk (some 92) (some (91, true)) (.k (.mov (.tmp 6))), .mk (some 93) (some (91, true)) (.call 17 [.tmp 92, .const (.slice none 0 0)]), .mk (some 94) none (.k (.pick (.tmp 91) (.tmp 93) (.const (.bool false)))), .mk (some 4) none (.k (.mov (.tmp 94)))]) .ret
def T3n17 : XC := .seq (.seq (.ops [.mk (some 20) none (.k (.mov (.tmp 0))), .mk (some 21) none (.k (.lenS (.tmp 20))), .mk (some 22) none (.k (.mov (.const (.int .i64 0))))]) (.blk 0 (.loop (.ref 15)))) (.ref 16)
def T3n18 : XC := .seq (.ops [.mk (some 6) none (.k (.mov (.const (.slice none 0 0))))]) (.ref 17)
def T3n19 : XC := .seq (.seq (.ops [.mk (some 12) none (.k (.mov (.tmp 0))), .mk (some 13) none (.k (.lenS (.tmp 12))), .mk (some 14) none (.k (.cmp .gtr .i64 (.tmp 13) (.const (.int .i64 30)))), .mk (some 15) none (.k (.mov (.tmp 14))), .mk (some 16) (some (15, false)) (.k (.mov (.tmp 5))), .mk (some 17) (some (15, false)) (.k (.not (.tmp 16))), .mk (some 18) none (.k (.pick (.tmp 15) (.const (.bool true)) (.tmp 17)))]) (.cond (.tmp 18) (.ref 0) .skip)) (.ref 18)
def T3n20 : XC := .seq (.ops [.mk (some 11) none (.call 15 []), .mk (some 5) none (.k (.mov (.tmp 11)))]) (.ref 19)
def T3 : Nat → XC
 | 0 => T3n0
 | 1 => T3n1
 | 2 => T3n2
 | 3 => T3n3
 | 4 => T3n4
 | 5 => T3n5
 | 6 => T3n6
 | 7 => T3n7
 | 8 => T3n8
 | 9 => T3n9
 | 10 => T3n10
 | 11 => T3n11
 | 12 => T3n12
 | 13 => T3n13
 | 14 => T3n14
 | 15 => T3n15
 | 16 => T3n16
 | 17 => T3n17
 | 18 => T3n18
 | 19 => T3n19
 | 20 => T3n20
 | _ => .skip
def X3 : XC := .seq (.ops [.mk (some 4) none (.k (.mov (.const (.bool false))))]) (.ref 20)
theorem n3 : Try.f3.ntmps = 95 := by kernel_rfl
theorem x3 : cmpF Try.prog Try.f3 = some (expand T3 22 X3) := by kernel_rfl
def T19n0 : XC := .seq (.ops [.mk (some 15) none (.k (.mov (.tmp 4))), .mk (some 2) none (.k (.mov (.const (.slice none 0 0)))), .mk (some 3) none (.k (.mov (.tmp 15)))]) .ret
def T19n1 : XC := .seq (.ops [.mk (some 13) none (.k (.mov (.tmp 4))), .mk (some 14) none (.k (.cmp .neq .i64 (.tmp 13) (.const (.int .i64 0))))]) (.cond (.tmp 14) (.ref 0) .skip)
def T19n2 : XC := .ops [.mk (some 39) none (.k (.mov (.tmp 10))), .mk (some 40) none (.k (.mov (.tmp 10))), .mk (some 41) none (.k (.nilc (.tmp 40))), .mk (some 42) none (.k (.load [.int .i64, .int .i64, .int .i64, .int .i64] true (.tmp 41))), .mk (some 43) none (.k (.mov (.tmp 6))), .mk (some 44) none (.k (.fld 2 (.tmp 9))), .mk (some 45) none (.k (.load [.int .i64] false (.tmp 44))), .mk (some 46) none (.k (.lkup (.int .i64) (.agg (Array.mk [.int .i64 0, .int .i64 0, .int .i64 0, .int .i64 0])) false (.tmp 43) (.tmp 45))), .mk (some 47) none (.call 48 [.tmp 42, .tmp 46]), .mk (some 48) none (.k (.nilc (.tmp 39))), .mk none none (.k (.store 4 (.tmp 48) (.tmp 47)))]
def T19n3 : XC := .ops [.mk (some 51) none (.k (.mov (.tmp 6))), .mk (some 52) none (.k (.fld 2 (.tmp 9))), .mk (some 53) none (.k (.load [.int .i64] false (.tmp 52))), .mk (some 54) none (.k (.mov (.tmp 6))), .mk (some 55) none (.k (.fld 2 (.tmp 9))), .mk (some 56) none (.k (.load [.int .i64] false (.tmp 55))), .mk (some 57) none (.k (.lkup (.int .i64) (.agg (Array.mk [.int .i64 0, .int .i64 0, .int .i64 0, .int .i64 0])) false (.tmp 54) (.tmp 56))), .mk (some 58) none (.k (.mov (.tmp 10))), .mk (some 59) none (.k (.nilc (.tmp 58))), .mk (some 60) none (.k (.load [.int .i64, .int .i64, .int .i64, .int .i64] true (.tmp 59))), .mk (some 61) none (.call 48 [.tmp 57, .tmp 60]), .mk none none (.still 53 (.load [.int .i64] false (.tmp 52))), .mk none none (.k (.mupd (.int .i64) (.tmp 51) (.tmp 53) (.tmp 61)))]
def T19n4 : XC := .seq (.ops [.mk (some 50) none (.k (.cmp .eql .i64 (.tmp 36) (.const (.int .i64 3)))), .mk (some 49) none (.k (.mov (.tmp 50)))]) (.cond (.tmp 49) (.ref 3) .skip)
def T19n5 : XC := .blk 2 (.seq (.ops [.mk (some 38) none (.k (.cmp .eql .i64 (.tmp 36) (.const (.int .i64 4)))), .mk (some 37) none (.k (.mov (.tmp 38)))]) (.cond (.tmp 37) (.ref 2) (.ref 4)))
def T19n6 : XC := .ops [.mk (some 62) none (.k (.mov (.tmp 7))), .mk (some 63) none (.k (.mov (.tmp 10))), .mk (some 64) none (.k (.nilc (.tmp 63))), .mk (some 65) none (.k (.load [.int .i64, .int .i64, .int .i64, .int .i64] true (.tmp 64))), .mk (some 66) none (.k (.buildS 56 1 4 [.int .i64 0, .int .i64 0, .int .i64 0, .int .i64 0] [(0, .tmp 65)])), .mk (some 67) none (.k (.app 56 4 32 (.tmp 62) (.tmp 66))), .mk (some 7) none (.k (.mov (.tmp 67)))]
def T19n7 : XC := .seq (.seq (.ops [.mk (some 35) none (.k (.fld 1 (.tmp 9))), .mk (some 36) none (.k (.load [.int .i64] false (.tmp 35)))]) (.ref 5)) (.ref 6)
def T19n8 : XC := .seq (.ops [.mk (some 26) none (.k (.mov (.tmp 10))), .mk (some 27) none (.k (.fld 0 (.tmp 9))), .mk (some 28) none (.k (.load [.int .i64] false (.tmp 27))), .mk (some 29) none (.k (.nilc (.tmp 26))), .mk (some 30) none (.k (.idxA 4 1 (.tmp 29) (.tmp 28))), .mk (some 31) none (.k (.load [.int .i64] false (.tmp 30))), .mk (some 32) none (.k (.arith .add .i64 (.tmp 31) (.const (.int .i64 1)))), .mk (some 33) none (.k (.nilc (.tmp 26))), .mk (some 34) none (.k (.idxA 4 1 (.tmp 33) (.tmp 28))), .mk none none (.k (.store 1 (.tmp 34) (.tmp 32)))]) (.ref 7)
def T19n9 : XC := .seq (.ops [.mk (some 23) none (.k (.fld 0 (.tmp 9))), .mk (some 24) none (.k (.load [.int .i64] false (.tmp 23))), .mk (some 25) none (.k (.idxA 4 4 (.tmp 5) (.tmp 24))), .mk (some 10) none (.k (.mov (.tmp 25)))]) (.ref 8)
def T19n10 : XC := .seq (.blk 1 (.seq (.ops [.mk (some 21) none (.k (.idx 3 (.tmp 17) (.tmp 19))), .mk (some 22) none (.k (.load [.int .i64, .int .i64, .int .i64] true (.tmp 21))), .mk (some 9) none (.k (.alloc 29 [.int .i64 0, .int .i64 0, .int .i64 0])), .mk none none (.k (.store 3 (.tmp 9) (.tmp 22)))]) (.ref 9))) (.ops [.mk (some 68) none (.k (.arith .add .i64 (.tmp 19) (.const (.int .i64 1)))), .mk (some 19) none (.k (.mov (.tmp 68)))])
def T19n11 : XC := .seq (.cond (.tmp 20) .skip (.exit 0)) (.ref 10)
def T19n12 : XC := .seq (.ops [.mk (some 20) none (.k (.cmp .lss .i64 (.tmp 19) (.tmp 18)))]) (.ref 11)
def T19n13 : XC := .seq (.ops [.mk (some 69) none (.k (.mov (.tmp 7))), .mk (some 2) none (.k (.mov (.tmp 69))), .mk (some 3) none (.k (.mov (.const (.int .i64 0))))]) .ret
def T19n14 : XC := .seq (.seq (.ops [.mk (some 17) none (.k (.mov (.tmp 0))), .mk (some 18) none (.k (.lenS (.tmp 17))), .mk (some 19) none (.k (.mov (.const (.int .i64 0))))]) (.blk 0 (.loop (.ref 12)))) (.ref 13)
def T19n15 : XC := .seq (.ops [.mk (some 7) none (.k (.mov (.const (.slice none 0 0))))]) (.ref 14)
def T19n16 : XC := .seq (.ops [.mk (some 16) none (.k .mkmap), .mk (some 6) none (.k (.mov (.tmp 16)))]) (.ref 15)
def T19n17 : XC := .seq (.ops [.mk (some 5) none (.k (.alloc 112 [.int .i64 0, .int .i64 0, .int .i64 0, .int .i64 0, .int .i64 0, .int .i64 0, .int .i64 0, .int .i64 0, .int .i64 0, .int .i64 0, .int .i64 0, .int .i64 0, .int .i64 0, .int .i64 0, .int .i64 0, .int .i64 0]))]) (.ref 16)
def T19n18 : XC := .seq (.seq (.ops [.mk (some 11) none (.k (.mov (.tmp 0))), .mk (some 12) none (.call 50 [.tmp 11]), .mk (some 4) none (.k (.mov (.tmp 12)))]) (.ref 1)) (.ref 17)
def T19 : Nat → XC
 | 0 => T19n0
 | 1 => T19n1
 | 2 => T19n2
 | 3 => T19n3
 | 4 => T19n4
 | 5 => T19n5
 | 6 => T19n6
 | 7 => T19n7
 | 8 => T19n8
 | 9 => T19n9
 | 10 => T19n10
 | 11 => T19n11
 | 12 => T19n12
 | 13 => T19n13
 | 14 => T19n14
 | 15 => T19n15
 | 16 => T19n16
 | 17 => T19n17
 | 18 => T19n18
 | _ => .skip
theorem t19n0 : T19 0 = T19n0 := rfl
theorem t19n1 : T19 1 = T19n1 := rfl
theorem t19n2 : T19 2 = T19n2 := rfl
theorem t19n3 : T19 3 = T19n3 := rfl
theorem t19n4 : T19 4 = T19n4 := rfl
theorem t19n5 : T19 5 = T19n5 := rfl
theorem t19n6 : T19 6 = T19n6 := rfl
theorem t19n7 : T19 7 = T19n7 := rfl
theorem t19n8 : T19 8 = T19n8 := rfl
theorem t19n9 : T19 9 = T19n9 := rfl
theorem t19n10 : T19 10 = T19n10 := rfl
theorem t19n11 : T19 11 = T19n11 := rfl
theorem t19n12 : T19 12 = T19n12 := rfl
theorem t19n13 : T19 13 = T19n13 := rfl
theorem t19n14 : T19 14 = T19n14 := rfl
theorem t19n15 : T19 15 = T19n15 := rfl
theorem t19n16 : T19 16 = T19n16 := rfl
theorem t19n17 : T19 17 = T19n17 := rfl
theorem t19n18 : T19 18 = T19n18 := rfl
def X19 : XC := .seq (.ops [.mk (some 2) none (.k (.mov (.const (.slice none 0 0)))), .mk (some 3) none (.k (.mov (.const (.int .i64 0))))]) (.ref 18)
abbrev K19 : List Nat := [0, 2, 3, 4, 5, 6, 7, 9, 10, 14, 17, 18, 19, 20, 36, 37, 49]
theorem n19 : Try.f19.ntmps = 70 := by kernel_rfl
theorem r19 : resT Try.f19.results.toList = some [2, 3] := by kernel_rfl
theorem x19 : cmpF Try.prog Try.f19 = some (expand T19 20 X19) := by kernel_rfl
def T21n0 : XC := .seq (.ops [.mk (some 19) none (.k (.mov (.tmp 5))), .mk (some 2) none (.k (.mov (.const (.slice none 0 0)))), .mk (some 3) none (.k (.mov (.tmp 19)))]) .ret
def T21n1 : XC := .seq (.ops [.mk (some 7) none (.k (.mov (.tmp 23)))]) (.ops [.mk (some 8) none (.k (.mov (.tmp 24)))])
def T21n2 : XC := .ops [.mk (some 73) none (.k (.load [.slc] false (.tmp 6))), .mk (some 74) none (.k (.mov (.tmp 7))), .mk (some 75) none (.k (.mov (.tmp 8))), .mk (some 76) none (.k (.build [.int .i64 0, .int .i64 0] [(0, 1, .tmp 74), (1, 1, .tmp 75)])), .mk (some 77) none (.k (.buildS 58 1 2 [.int .i64 0, .int .i64 0] [(0, .tmp 76)])), .mk (some 78) none (.k (.app 58 2 16 (.tmp 73) (.tmp 77))), .mk none none (.k (.store 1 (.tmp 6) (.tmp 78)))]
def T21n3 : XC := .seq (.seq (.ops [.mk (some 41) none (.k (.mov (.tmp 11))), .mk (some 42) none (.k (.not (.tmp 41))), .mk (some 43) none (.k (.mov (.tmp 42))), .mk (some 44) (some (43, false)) (.k (.fld 2 (.tmp 9))), .mk (some 45) (some (43, false)) (.k (.load [.int .i64] false (.tmp 44))), .mk (some 46) (some (43, false)) (.k (.fld 2 (.tmp 10))), .mk (some 47) (some (43, false)) (.k (.load [.int .i64] false (.tmp 46))), .mk (some 48) (some (43, false)) (.k (.cmp .neq .i64 (.tmp 45) (.tmp 47))), .mk (some 49) none (.k (.pick (.tmp 43) (.const (.bool true)) (.tmp 48))), .mk (some 50) none (.k (.mov (.tmp 49))), .mk (some 51) (some (50, false)) (.k (.fld 0 (.tmp 9))), .mk (some 52) (some (50, false)) (.k (.load [.int .i64] false (.tmp 51))), .mk (some 53) (some (50, false)) (.k (.fld 0 (.tmp 10))), .mk (some 54) (some (50, false)) (.k (.load [.int .i64] false (.tmp 53))), .mk (some 55) (some (50, false)) (.k (.cmp .eql .i64 (.tmp 52) (.tmp 54))), .mk (some 56) none (.k (.pick (.tmp 50) (.const (.bool true)) (.tmp 55))), .mk (some 57) none (.k (.mov (.tmp 56))), .mk (some 58) (some (57, false)) (.k (.fld 1 (.tmp 9))), .mk (some 59) (some (57, false)) (.k (.load [.int .i64] false (.tmp 58))), .mk (some 60) (some (57, false)) (.k (.cmp .eql .i64 (.tmp 59) (.const (.int .i64 1)))), .mk (some 61) (some (57, false)) (.k (.mov (.tmp 60))), .mk (some 62) (some (61, true)) (.k (.fld 1 (.tmp 10))), .mk (some 63) (some (61, true)) (.k (.load [.int .i64] false (.tmp 62))), .mk (some 64) (some (61, true)) (.k (.cmp .eql .i64 (.tmp 63) (.const (.int .i64 1)))), .mk (some 65) (some (57, false)) (.k (.pick (.tmp 61) (.tmp 64) (.const (.bool false)))), .mk (some 66) none (.k (.pick (.tmp 57) (.const (.bool true)) (.tmp 65))), .mk (some 67) none (.k (.mov (.tmp 66))), .mk (some 68) (some (67, false)) (.k (.load [.slc] false (.tmp 4))), .mk (some 69) (some (67, false)) (.k (.mov (.tmp 7))), .mk (some 70) (some (67, false)) (.k (.mov (.tmp 8))), .mk (some 71) (some (67, false)) (.call 53 [.tmp 68, .tmp 69, .tmp 70]), .mk (some 72) none (.k (.pick (.tmp 67) (.const (.bool true)) (.tmp 71)))]) (.cond (.tmp 72) (.exit 1) .skip)) (.ref 2)
def T21n4 : XC := .seq (.ops [.mk (some 33) none (.k (.fld 1 (.tmp 9))), .mk (some 34) none (.k (.load [.int .i64] false (.tmp 33))), .mk (some 35) none (.k (.cmp .leq .i64 (.tmp 34) (.const (.int .i64 2)))), .mk (some 36) none (.k (.mov (.tmp 35))), .mk (some 37) (some (36, true)) (.k (.fld 1 (.tmp 10))), .mk (some 38) (some (36, true)) (.k (.load [.int .i64] false (.tmp 37))), .mk (some 39) (some (36, true)) (.k (.cmp .leq .i64 (.tmp 38) (.const (.int .i64 2)))), .mk (some 40) none (.k (.pick (.tmp 36) (.tmp 39) (.const (.bool false)))), .mk (some 11) none (.k (.mov (.tmp 40)))]) (.ref 3)
def T21n5 : XC := .blk 1 (.seq (.alt 12 (.seq (.mk (some 26) none (.k (.mov (.tmp 7)))) 1 (.seq (.mk (some 30) none (.k (.mov (.tmp 8)))) 5 (.seq (.mk (some 25) none (.k (.load [.slc] false (.tmp 1)))) 0 (.seq (.mk (some 27) none (.k (.idx 3 (.tmp 25) (.tmp 26)))) 2 (.seq (.mk (some 28) none (.k (.load [.int .i64, .int .i64, .int .i64] true (.tmp 27)))) 3 (.seq (.mk (some 29) none (.k (.load [.slc] false (.tmp 1)))) 4 (.seq (.mk (some 31) none (.k (.idx 3 (.tmp 29) (.tmp 30)))) 6 (.seq (.mk (some 32) none (.k (.load [.int .i64, .int .i64, .int .i64] true (.tmp 31)))) 7 (.alt (.seq (.mk (some 9) none (.k (.alloc 29 [.int .i64 0, .int .i64 0, .int .i64 0]))) 8 (.seq (.mk (some 10) none (.k (.alloc 29 [.int .i64 0, .int .i64 0, .int .i64 0]))) 9 (.seq (.mk none none (.k (.store 3 (.tmp 9) (.tmp 28)))) 10 (.seq (.mk none none (.still 29 (.load [.slc] false (.tmp 1)))) 4 (.seq (.mk none none (.still 32 (.load [.int .i64, .int .i64, .int .i64] true (.tmp 31)))) 7 (.seq (.mk none none (.k (.store 3 (.tmp 10) (.tmp 32)))) 11 .done)))))) (.seq (.mk (some 10) none (.k (.alloc 29 [.int .i64 0, .int .i64 0, .int .i64 0]))) 9 (.seq (.mk (some 9) none (.k (.alloc 29 [.int .i64 0, .int .i64 0, .int .i64 0]))) 8 (.seq (.mk none none (.k (.store 3 (.tmp 9) (.tmp 28)))) 10 (.seq (.mk none none (.still 29 (.load [.slc] false (.tmp 1)))) 4 (.seq (.mk none none (.still 32 (.load [.int .i64, .int .i64, .int .i64] true (.tmp 31)))) 7 (.seq (.mk none none (.k (.store 3 (.tmp 10) (.tmp 32)))) 11 .done)))))))))))))))) (.ref 4))
def T21n6 : XC := .blk 0 (.rng (.tmp 22) [23, 24] (.ref 1) (.ref 5))
def T21n7 : XC := .seq (.ops [.mk (some 79) none (.k (.load [.slc] false (.tmp 6))), .mk (some 2) none (.k (.mov (.tmp 79))), .mk (some 3) none (.k (.mov (.const (.int .i64 0))))]) .ret
def T21n8 : XC := .seq (.seq (.ops [.mk (some 20) none (.k (.load [.slc] false (.tmp 1))), .mk (some 21) none (.k (.lenS (.tmp 20))), .mk (some 22) none (.call 52 [.tmp 21])]) (.ref 6)) (.ref 7)
def T21n9 : XC := .seq (.ops [.mk (some 6) none (.k (.alloc 40 [.slice none 0 0]))]) (.seq (.lab) (.ref 8))
def T21n10 : XC := .seq (.seq (.ops [.mk (some 17) none (.k (.mov (.tmp 5))), .mk (some 18) none (.k (.cmp .neq .i64 (.tmp 17) (.const (.int .i64 0))))]) (.cond (.tmp 18) (.ref 0) .skip)) (.ref 9)
def T21n11 : XC := .scp (.seq (.ops [.mk (some 13) none (.k (.load [.slc] false (.tmp 1))), .mk (some 14) none (.call 19 [.tmp 13]), .mk (some 12) none (.k (.mov (.tmp 14))), .mk (some 15) none (.k (.ext (.tmp 12) 0)), .mk (some 16) none (.k (.ext (.tmp 12) 1)), .mk (some 4) none (.k (.alloc 34 [.slice none 0 0])), .mk none none (.k (.store 1 (.tmp 4) (.tmp 15))), .mk (some 5) none (.k (.mov (.tmp 16)))]) (.ref 10))
def T21 : Nat → XC
 | 0 => T21n0
 | 1 => T21n1
 | 2 => T21n2
 | 3 => T21n3
 | 4 => T21n4
 | 5 => T21n5
 | 6 => T21n6
 | 7 => T21n7
 | 8 => T21n8
 | 9 => T21n9
 | 10 => T21n10
 | 11 => T21n11
 | _ => .skip
theorem t21n0 : T21 0 = T21n0 := rfl
theorem t21n1 : T21 1 = T21n1 := rfl
theorem t21n2 : T21 2 = T21n2 := rfl
theorem t21n3 : T21 3 = T21n3 := rfl
theorem t21n4 : T21 4 = T21n4 := rfl
theorem t21n5 : T21 5 = T21n5 := rfl
theorem t21n6 : T21 6 = T21n6 := rfl
theorem t21n7 : T21 7 = T21n7 := rfl
theorem t21n8 : T21 8 = T21n8 := rfl
theorem t21n9 : T21 9 = T21n9 := rfl
theorem t21n10 : T21 10 = T21n10 := rfl
theorem t21n11 : T21 11 = T21n11 := rfl
def X21 : XC := .seq (.ops [.mk (some 1) none (.k (.box 25 1 (.tmp 0))), .mk (some 2) none (.k (.mov (.const (.slice none 0 0)))), .mk (some 3) none (.k (.mov (.const (.int .i64 0))))]) (.ref 11)
abbrev K21 : List Nat := [0, 1, 2, 3, 4, 5, 6, 7, 8, 9, 10, 11, 18, 22, 23, 24, 25, 26, 27, 28, 29, 30, 31, 32, 72]
theorem n21 : Try.f21.ntmps = 80 := by kernel_rfl
theorem r21 : resT Try.f21.results.toList = some [2, 3] := by kernel_rfl
theorem x21 : cmpF Try.prog Try.f21 = some (expand T21 13 X21) := by kernel_rfl
def T25n0 : XC := .seq (.ops [.mk (some 6) none (.k (.mov (.const (.bool false)))), .mk (some 7) none (.k (.mov (.const (.int .i64 260))))]) .ret
def T25n1 : XC := .seq (.ops [.mk (some 37) none (.k (.mov (.tmp 8))), .mk (some 38) none (.k (.mov (.tmp 1))), .mk (some 39) none (.k (.mov (.tmp 2))), .mk (some 40) none (.call 53 [.tmp 37, .tmp 38, .tmp 39]), .mk (some 6) none (.k (.mov (.tmp 40))), .mk (some 7) none (.k (.mov (.const (.int .i64 0))))]) .ret
def T25n2 : XC := .seq (.seq (.ops [.mk (some 15) none (.k (.mov (.tmp 9))), .mk (some 16) none (.k (.cmp .neq .i64 (.tmp 15) (.const (.int .i64 0)))), .mk (some 17) none (.k (.mov (.tmp 16))), .mk (some 18) (some (17, false)) (.k (.mov (.tmp 1))), .mk (some 19) (some (17, false)) (.k (.cmp .lss .i64 (.tmp 18) (.const (.int .i64 0)))), .mk (some 20) none (.k (.pick (.tmp 17) (.const (.bool true)) (.tmp 19))), .mk (some 21) none (.k (.mov (.tmp 20))), .mk (some 22) (some (21, false)) (.k (.mov (.tmp 2))), .mk (some 23) (some (21, false)) (.k (.cmp .lss .i64 (.tmp 22) (.const (.int .i64 0)))), .mk (some 24) none (.k (.pick (.tmp 21) (.const (.bool true)) (.tmp 23))), .mk (some 25) none (.k (.mov (.tmp 24))), .mk (some 26) (some (25, false)) (.k (.mov (.tmp 1))), .mk (some 27) (some (25, false)) (.k (.mov (.tmp 0))), .mk (some 28) (some (25, false)) (.k (.lenS (.tmp 27))), .mk (some 29) (some (25, false)) (.k (.cmp .geq .i64 (.tmp 26) (.tmp 28))), .mk (some 30) none (.k (.pick (.tmp 25) (.const (.bool true)) (.tmp 29))), .mk (some 31) none (.k (.mov (.tmp 30))), .mk (some 32) (some (31, false)) (.k (.mov (.tmp 2))), .mk (some 33) (some (31, false)) (.k (.mov (.tmp 0))), .mk (some 34) (some (31, false)) (.k (.lenS (.tmp 33))), .mk (some 35) (some (31, false)) (.k (.cmp .geq .i64 (.tmp 32) (.tmp 34))), .mk (some 36) none (.k (.pick (.tmp 31) (.const (.bool true)) (.tmp 35)))]) (.cond (.tmp 36) (.ref 0) .skip)) (.ref 1)
def T25n3 : XC := .seq (.ops [.mk (some 11) none (.k (.mov (.tmp 0))), .mk (some 12) none (.call 19 [.tmp 11]), .mk (some 10) none (.k (.mov (.tmp 12))), .mk (some 13) none (.k (.ext (.tmp 10) 0)), .mk (some 14) none (.k (.ext (.tmp 10) 1)), .mk (some 8) none (.k (.mov (.tmp 13))), .mk (some 9) none (.k (.mov (.tmp 14)))]) (.ref 2)
def T25 : Nat → XC
 | 0 => T25n0
 | 1 => T25n1
 | 2 => T25n2
 | 3 => T25n3
 | _ => .skip
theorem t25n0 : T25 0 = T25n0 := rfl
theorem t25n1 : T25 1 = T25n1 := rfl
theorem t25n2 : T25 2 = T25n2 := rfl
theorem t25n3 : T25 3 = T25n3 := rfl
def X25 : XC := .seq (.ops [.mk (some 6) none (.k (.mov (.const (.bool false)))), .mk (some 7) none (.k (.mov (.const (.int .i64 0))))]) (.ref 3)
abbrev K25 : List Nat := [0, 1, 2, 6, 7, 8, 9, 36]
theorem n25 : Try.f25.ntmps = 41 := by kernel_rfl
theorem r25 : resT Try.f25.results.toList = some [6, 7] := by kernel_rfl
theorem x25 : cmpF Try.prog Try.f25 = some (expand T25 5 X25) := by kernel_rfl
def T28n0 : XC := .seq (.ops [.mk (some 5) none (.k (.load [.int .i64, .int .i64, .int .i64, .int .i64] true (.tmp 2))), .mk (some 6) none (.k (.load [.int .i64, .int .i64, .int .i64, .int .i64] true (.tmp 3))), .mk (some 8) none (.k (.load [.int .i64, .int .i64, .int .i64, .int .i64] true (.tmp 3))), .mk (some 7) none (.call 48 [.tmp 5, .tmp 6]), .mk none none (.still 8 (.load [.int .i64, .int .i64, .int .i64, .int .i64] true (.tmp 3))), .mk (some 9) none (.k (.eqa false [.int .i64, .int .i64, .int .i64, .int .i64] (.tmp 7) (.tmp 8))), .mk (some 4) none (.k (.mov (.tmp 9)))]) .ret
def T28 : Nat → XC
 | 0 => T28n0
 | _ => .skip
theorem t28n0 : T28 0 = T28n0 := rfl
def X28 : XC := .seq (.ops [.mk (some 2) none (.k (.box 56 4 (.tmp 0))), .mk (some 3) none (.k (.box 56 4 (.tmp 1))), .mk (some 4) none (.k (.mov (.const (.bool false))))]) (.ref 0)
abbrev K28 : List Nat := [0, 1, 2, 3, 4]
theorem n28 : Try.f28.ntmps = 10 := by kernel_rfl
theorem r28 : resT Try.f28.results.toList = some [4] := by kernel_rfl
theorem x28 : cmpF Try.prog Try.f28 = some (expand T28 2 X28) := by kernel_rfl
def T48n0 : XC := .ops [.mk (some 9) none (.k (.mov (.tmp 5))), .mk (some 10) none (.k (.mov (.tmp 5))), .mk (some 11) none (.k (.idxA 4 1 (.tmp 2) (.tmp 10))), .mk (some 12) none (.k (.load [.int .i64] false (.tmp 11))), .mk (some 13) none (.k (.mov (.tmp 5))), .mk (some 14) none (.k (.idxA 4 1 (.tmp 3) (.tmp 13))), .mk (some 15) none (.k (.load [.int .i64] false (.tmp 14))), .mk (some 16) none (.k (.mm true .i64 (.tmp 12) (.tmp 15))), .mk (some 17) none (.k (.idxA 4 1 (.tmp 2) (.tmp 9))), .mk none none (.k (.store 1 (.tmp 17) (.tmp 16)))]
def T48n1 : XC := .seq (.blk 1 (.seq (.ops [.mk (some 8) none (.k (.mov (.tmp 6))), .mk (some 5) none (.k (.mov (.tmp 8)))]) (.ref 0))) (.ops [.mk (some 18) none (.k (.arith .add .i64 (.tmp 6) (.const (.int .i64 1)))), .mk (some 6) none (.k (.mov (.tmp 18)))])
def T48n2 : XC := .seq (.cond (.tmp 7) .skip (.exit 0)) (.ref 1)
def T48n3 : XC := .seq (.ops [.mk (some 7) none (.k (.cmp .lss .i64 (.tmp 6) (.const (.int .i64 4))))]) (.ref 2)
def T48n4 : XC := .seq (.ops [.mk (some 19) none (.k (.load [.int .i64, .int .i64, .int .i64, .int .i64] true (.tmp 2))), .mk none none (.k (.store 4 (.tmp 4) (.tmp 19)))]) .ret
def T48n5 : XC := .seq (.seq (.ops [.mk (some 6) none (.k (.mov (.const (.int .i64 0))))]) (.blk 0 (.loop (.ref 3)))) (.ref 4)
def T48 : Nat → XC
 | 0 => T48n0
 | 1 => T48n1
 | 2 => T48n2
 | 3 => T48n3
 | 4 => T48n4
 | 5 => T48n5
 | _ => .skip
theorem t48n0 : T48 0 = T48n0 := rfl
theorem t48n1 : T48 1 = T48n1 := rfl
theorem t48n2 : T48 2 = T48n2 := rfl
theorem t48n3 : T48 3 = T48n3 := rfl
theorem t48n4 : T48 4 = T48n4 := rfl
theorem t48n5 : T48 5 = T48n5 := rfl
def X48 : XC := .seq (.ops [.mk (some 2) none (.k (.box 56 4 (.tmp 0))), .mk (some 3) none (.k (.box 56 4 (.tmp 1))), .mk (some 4) none (.k (.alloc 56 [.int .i64 0, .int .i64 0, .int .i64 0, .int .i64 0]))]) (.ref 5)
abbrev K48 : List Nat := [0, 1, 2, 3, 4, 5, 6, 7]
theorem n48 : Try.f48.ntmps = 20 := by kernel_rfl
theorem r48 : rvOf Try.prog Try.f48.results.toList = some [RV.cell 4 4 true] := by kernel_rfl
theorem x48 : cmpF Try.prog Try.f48 = some (expand T48 7 X48) := by kernel_rfl
def T50n0 : XC := .seq (.ops [.mk (some 2) none (.k (.mov (.const (.int .i64 260))))]) .ret
def T50n1 : XC := .seq (.ops [.mk (some 2) none (.k (.mov (.const (.int .i64 0))))]) .ret
def T50n2 : XC := .seq (.seq (.ops [.mk (some 3) none (.k (.mov (.tmp 0))), .mk (some 4) none (.k (.lenS (.tmp 3))), .mk (some 5) none (.k (.cmp .gtr .i64 (.tmp 4) (.const (.int .i64 400)))), .mk (some 6) none (.k (.mov (.tmp 5))), .mk (some 7) (some (6, false)) (.k (.mov (.tmp 0))), .mk (some 8) (some (6, false)) (.call 66 [.tmp 7, .func 67]), .mk (some 9) none (.k (.pick (.tmp 6) (.const (.bool true)) (.tmp 8)))]) (.cond (.tmp 9) (.ref 0) .skip)) (.ref 1)
def T50 : Nat → XC
 | 0 => T50n0
 | 1 => T50n1
 | 2 => T50n2
 | _ => .skip
theorem t50n0 : T50 0 = T50n0 := rfl
theorem t50n1 : T50 1 = T50n1 := rfl
theorem t50n2 : T50 2 = T50n2 := rfl
def X50 : XC := .seq (.ops [.mk (some 2) none (.k (.mov (.const (.int .i64 0))))]) (.ref 2)
abbrev K50 : List Nat := [0, 2, 9]
theorem n50 : Try.f50.ntmps = 10 := by kernel_rfl
theorem r50 : resT Try.f50.results.toList = some [2] := by kernel_rfl
theorem x50 : cmpF Try.prog Try.f50 = some (expand T50 4 X50) := by kernel_rfl
def T52n0 : XC := .seq (.ops [.mk (some 3) none (.k (.mkfn (.func 68) [] [.tmp 1])), .mk (some 2) none (.k (.mov (.tmp 3)))]) .ret
def T52 : Nat → XC
 | 0 => T52n0
 | _ => .skip
theorem t52n0 : T52 0 = T52n0 := rfl
def X52 : XC := .seq (.ops [.mk (some 1) none (.k (.box 3 1 (.tmp 0))), .mk (some 2) none (.k (.mov (.const .nilFunc)))]) (.ref 0)
abbrev K52 : List Nat := [0, 1, 2]
theorem n52 : Try.f52.ntmps = 4 := by kernel_rfl
theorem r52 : resT Try.f52.results.toList = some [2] := by kernel_rfl
theorem x52 : cmpF Try.prog Try.f52 = some (expand T52 2 X52) := by kernel_rfl
def T53n0 : XC := .seq (.ops [.mk (some 7) none (.k (.mov (.tmp 1))), .mk (some 8) none (.k (.mov (.tmp 2))), .mk (some 9) none (.k (.cmp .lss .i64 (.tmp 7) (.tmp 8))), .mk (some 10) none (.k (.mov (.tmp 9))), .mk (some 11) (some (10, true)) (.k (.mov (.tmp 0))), .mk (some 12) (some (10, true)) (.k (.mov (.tmp 1))), .mk (some 13) (some (10, true)) (.k (.idx 4 (.tmp 11) (.tmp 12))), .mk (some 14) (some (10, true)) (.k (.load [.int .i64, .int .i64, .int .i64, .int .i64] true (.tmp 13))), .mk (some 15) (some (10, true)) (.k (.mov (.tmp 0))), .mk (some 16) (some (10, true)) (.k (.mov (.tmp 2))), .mk (some 17) (some (10, true)) (.k (.idx 4 (.tmp 15) (.tmp 16))), .mk (some 18) (some (10, true)) (.k (.load [.int .i64, .int .i64, .int .i64, .int .i64] true (.tmp 17))), .mk (some 19) (some (10, true)) (.call 28 [.tmp 14, .tmp 18]), .mk (some 20) none (.k (.pick (.tmp 10) (.tmp 19) (.const (.bool false)))), .mk (some 6) none (.k (.mov (.tmp 20)))]) .ret
def T53 : Nat → XC
 | 0 => T53n0
 | _ => .skip
theorem t53n0 : T53 0 = T53n0 := rfl
def X53 : XC := .seq (.ops [.mk (some 6) none (.k (.mov (.const (.bool false))))]) (.ref 0)
abbrev K53 : List Nat := [0, 1, 2, 6]
theorem n53 : Try.f53.ntmps = 21 := by kernel_rfl
theorem r53 : resT Try.f53.results.toList = some [6] := by kernel_rfl
theorem x53 : cmpF Try.prog Try.f53 = some (expand T53 2 X53) := by kernel_rfl
def T66n0 : XC := .seq (.ops [.mk (some 5) none (.k (.mov (.tmp 0))), .mk (some 6) none (.k (.mov (.tmp 1))), .mk (some 7) none (.call 76 [.tmp 5, .tmp 6]), .mk (some 8) none (.k (.cmp .geq .i64 (.tmp 7) (.const (.int .i64 0)))), .mk (some 4) none (.k (.mov (.tmp 8)))]) .ret
def T66 : Nat → XC
 | 0 => T66n0
 | _ => .skip
theorem t66n0 : T66 0 = T66n0 := rfl
def X66 : XC := .seq (.ops [.mk (some 4) none (.k (.mov (.const (.bool false))))]) (.ref 0)
abbrev K66 : List Nat := [0, 1, 4]
theorem n66 : Try.f66.ntmps = 9 := by kernel_rfl
theorem r66 : resT Try.f66.results.toList = some [4] := by kernel_rfl
theorem x66 : cmpF Try.prog Try.f66 = some (expand T66 2 X66) := by kernel_rfl
def T67n0 : XC := .seq (.ops [.mk (some 3) none (.k (.fld 0 (.tmp 1))), .mk (some 4) none (.k (.load [.int .i64] false (.tmp 3))), .mk (some 5) none (.k (.cmp .lss .i64 (.tmp 4) (.const (.int .i64 0)))), .mk (some 6) none (.k (.mov (.tmp 5))), .mk (some 7) (some (6, false)) (.k (.fld 0 (.tmp 1))), .mk (some 8) (some (6, false)) (.k (.load [.int .i64] false (.tmp 7))), .mk (some 9) (some (6, false)) (.k (.cmp .geq .i64 (.tmp 8) (.const (.int .i64 4)))), .mk (some 10) none (.k (.pick (.tmp 6) (.const (.bool true)) (.tmp 9))), .mk (some 11) none (.k (.mov (.tmp 10))), .mk (some 12) (some (11, false)) (.k (.fld 1 (.tmp 1))), .mk (some 13) (some (11, false)) (.k (.load [.int .i64] false (.tmp 12))), .mk (some 14) (some (11, false)) (.k (.cmp .lss .i64 (.tmp 13) (.const (.int .i64 1)))), .mk (some 15) none (.k (.pick (.tmp 11) (.const (.bool true)) (.tmp 14))), .mk (some 16) none (.k (.mov (.tmp 15))), .mk (some 17) (some (16, false)) (.k (.fld 1 (.tmp 1))), .mk (some 18) (some (16, false)) (.k (.load [.int .i64] false (.tmp 17))), .mk (some 19) (some (16, false)) (.k (.cmp .gtr .i64 (.tmp 18) (.const (.int .i64 4)))), .mk (some 20) none (.k (.pick (.tmp 16) (.const (.bool true)) (.tmp 19))), .mk (some 21) none (.k (.mov (.tmp 20))), .mk (some 22) (some (21, false)) (.k (.fld 2 (.tmp 1))), .mk (some 23) (some (21, false)) (.k (.load [.int .i64] false (.tmp 22))), .mk (some 24) (some (21, false)) (.k (.cmp .lss .i64 (.tmp 23) (.const (.int .i64 0)))), .mk (some 25) none (.k (.pick (.tmp 21) (.const (.bool true)) (.tmp 24))), .mk (some 2) none (.k (.mov (.tmp 25)))]) .ret
def T67 : Nat → XC
 | 0 => T67n0
 | _ => .skip
theorem t67n0 : T67 0 = T67n0 := rfl
def X67 : XC := .seq (.ops [.mk (some 1) none (.k (.box 29 3 (.tmp 0))), .mk (some 2) none (.k (.mov (.const (.bool false))))]) (.ref 0)
abbrev K67 : List Nat := [0, 1, 2]
theorem n67 : Try.f67.ntmps = 26 := by kernel_rfl
theorem r67 : resT Try.f67.results.toList = some [2] := by kernel_rfl
theorem x67 : cmpF Try.prog Try.f67 = some (expand T67 2 X67) := by kernel_rfl
def T68n0 : XC := .ops [.mk (some 14) none (.k (.mov (.tmp 4))), .mk (some 15) none (.k (.arith .add .i64 (.tmp 14) (.const (.int .i64 1)))), .mk (some 4) none (.k (.mov (.tmp 15)))]
def T68n1 : XC := .seq (.blk 3 (.seq (.ops [.mk (some 16) none (.k (.mov (.tmp 0))), .mk (some 17) none (.k (.mov (.tmp 3))), .mk (some 18) none (.k (.mov (.tmp 4))), .mk (some 19) none (.callv (.tmp 16) [.tmp 17, .tmp 18]), .mk (some 20) none (.k (.not (.tmp 19)))]) (.cond (.tmp 20) .ret .skip))) (.ref 0)
def T68n2 : XC := .seq (.seq (.ops [.mk (some 11) none (.k (.mov (.tmp 4))), .mk (some 12) none (.k (.load [.int .i64] false (.tmp 1))), .mk (some 13) none (.k (.cmp .lss .i64 (.tmp 11) (.tmp 12)))]) (.cond (.tmp 13) .skip (.exit 2))) (.ref 1)
def T68n3 : XC := .seq (.ops [.mk (some 9) none (.k (.mov (.tmp 3))), .mk (some 10) none (.k (.arith .add .i64 (.tmp 9) (.const (.int .i64 1)))), .mk (some 4) none (.k (.mov (.tmp 10)))]) (.blk 2 (.loop (.ref 2)))
def T68n4 : XC := .seq (.blk 1 (.seq (.ops [.mk (some 8) none (.k (.mov (.tmp 6))), .mk (some 3) none (.k (.mov (.tmp 8)))]) (.ref 3))) (.ops [.mk (some 21) none (.k (.arith .add .i64 (.tmp 6) (.const (.int .i64 1)))), .mk (some 6) none (.k (.mov (.tmp 21)))])
def T68n5 : XC := .seq (.cond (.tmp 7) .skip (.exit 0)) (.ref 4)
def T68n6 : XC := .seq (.ops [.mk (some 7) none (.k (.cmp .lss .i64 (.tmp 6) (.tmp 5)))]) (.ref 5)
def T68 : Nat → XC
 | 0 => T68n0
 | 1 => T68n1
 | 2 => T68n2
 | 3 => T68n3
 | 4 => T68n4
 | 5 => T68n5
 | 6 => T68n6
 | _ => .skip
theorem t68n0 : T68 0 = T68n0 := rfl
theorem t68n1 : T68 1 = T68n1 := rfl
theorem t68n2 : T68 2 = T68n2 := rfl
theorem t68n3 : T68 3 = T68n3 := rfl
theorem t68n4 : T68 4 = T68n4 := rfl
theorem t68n5 : T68 5 = T68n5 := rfl
theorem t68n6 : T68 6 = T68n6 := rfl
def X68 : XC := .seq (.ops [.mk (some 5) none (.k (.load [.int .i64] false (.tmp 1))), .mk (some 6) none (.k (.mov (.const (.int .i64 0))))]) (.blk 0 (.loop (.ref 6)))
abbrev K68 : List Nat := [0, 1, 3, 4, 5, 6, 7, 13, 20]
theorem n68 : Try.f68.ntmps = 22 := by kernel_rfl
theorem r68 : resT Try.f68.results.toList = some [] := by kernel_rfl
theorem x68 : cmpF Try.prog Try.f68 = some (expand T68 8 X68) := by kernel_rfl
def T76n0 : XC := .seq (.ops [.mk (some 17) none (.k (.mov (.tmp 5))), .mk (some 4) none (.k (.mov (.tmp 17)))]) .ret
def T76n1 : XC := .seq (.ops [.mk (some 11) none (.k (.mov (.tmp 1))), .mk (some 12) none (.k (.mov (.tmp 0))), .mk (some 13) none (.k (.mov (.tmp 5))), .mk (some 14) none (.k (.idx 3 (.tmp 12) (.tmp 13))), .mk (some 15) none (.k (.load [.int .i64, .int .i64, .int .i64] true (.tmp 14))), .mk (some 16) none (.callv (.tmp 11) [.tmp 15])]) (.cond (.tmp 16) (.ref 0) .skip)
def T76n2 : XC := .seq (.blk 1 (.seq (.ops [.mk (some 10) none (.k (.mov (.tmp 8))), .mk (some 5) none (.k (.mov (.tmp 10)))]) (.ref 1))) (.ops [.mk (some 18) none (.k (.arith .add .i64 (.tmp 8) (.const (.int .i64 1)))), .mk (some 8) none (.k (.mov (.tmp 18)))])
def T76n3 : XC := .seq (.cond (.tmp 9) .skip (.exit 0)) (.ref 2)
def T76n4 : XC := .seq (.ops [.mk (some 9) none (.k (.cmp .lss .i64 (.tmp 8) (.tmp 7)))]) (.ref 3)
def T76n5 : XC := .seq (.ops [.mk (some 4) none (.k (.mov (.const (.int .i64 (-1)))))]) .ret
def T76n6 : XC := .seq (.seq (.ops [.mk (some 6) none (.k (.mov (.tmp 0))), .mk (some 7) none (.k (.lenS (.tmp 6))), .mk (some 8) none (.k (.mov (.const (.int .i64 0))))]) (.blk 0 (.loop (.ref 4)))) (.ref 5)
def T76 : Nat → XC
 | 0 => T76n0
 | 1 => T76n1
 | 2 => T76n2
 | 3 => T76n3
 | 4 => T76n4
 | 5 => T76n5
 | 6 => T76n6
 | _ => .skip
theorem t76n0 : T76 0 = T76n0 := rfl
theorem t76n1 : T76 1 = T76n1 := rfl
theorem t76n2 : T76 2 = T76n2 := rfl
theorem t76n3 : T76 3 = T76n3 := rfl
theorem t76n4 : T76 4 = T76n4 := rfl
theorem t76n5 : T76 5 = T76n5 := rfl
theorem t76n6 : T76 6 = T76n6 := rfl
def X76 : XC := .seq (.ops [.mk (some 4) none (.k (.mov (.const (.int .i64 0))))]) (.ref 6)
abbrev K76 : List Nat := [0, 1, 4, 5, 7, 8, 9, 16]
theorem n76 : Try.f76.ntmps = 19 := by kernel_rfl
theorem r76 : resT Try.f76.results.toList = some [4] := by kernel_rfl
theorem x76 : cmpF Try.prog Try.f76 = some (expand T76 8 X76) := by kernel_rfl
end Go.Proofs.Ytnedgfkgmdoahaa
