/- Printed by program: the small code of functions, and that it is theirs. -/
import Derived.Test.YtnedgfkgmdoahaaSxStill
import Derived.Test.YtnedgfkgmdoahaaProg
import Derived.KernelRfl
set_option linter.unusedSimpArgs false
set_option linter.unusedVariables false
set_option linter.unnecessarySimpa false
namespace Go.Proofs.Ytnedgfkgmdoahaa
open Go Go.Sx
set_option maxRecDepth 100000
def T32n0 : XC := .seq (.ops [.mk (some 18) none (.k (.mov (.tmp 6))), .mk (some 2) none (.k (.mov (.const (.int .i64 0)))), .mk (some 3) none (.k (.mov (.const (.bool false)))), .mk (some 4) none (.k (.mov (.tmp 18)))]) .ret
def T32n1 : XC := .seq (.ops [.mk (some 74) none (.k (.mov (.tmp 7))), .mk (some 2) none (.k (.mov (.tmp 74))), .mk (some 3) none (.k (.mov (.const (.bool true)))), .mk (some 4) none (.k (.mov (.const (.int .i64 0))))]) .ret
def T32n2 : XC := .seq (.ops [.mk (some 35) none (.k (.mov (.tmp 10))), .mk (some 36) none (.call 56 [.tmp 35]), .mk (some 37) none (.k (.not (.tmp 36))), .mk (some 38) none (.k (.mov (.tmp 37))), .mk (some 39) (some (38, true)) (.k (.mov (.tmp 10))), .mk (some 40) (some (38, true)) (.k (.nilc (.tmp 39))), .mk (some 41) (some (38, true)) (.k (.fld 0 (.tmp 40))), .mk (some 42) (some (38, true)) (.k (.fld 4 (.tmp 41))), .mk (some 43) (some (38, true)) (.k (.load [.int .i64] false (.tmp 42))), .mk (some 44) (some (38, true)) (.k (.mov (.tmp 7))), .mk (some 45) (some (38, true)) (.k (.cmp .lss .i64 (.tmp 43) (.tmp 44))), .mk (some 46) none (.k (.pick (.tmp 38) (.tmp 45) (.const (.bool false)))), .mk (some 47) none (.k (.mov (.tmp 46))), .mk (some 48) (some (47, true)) (.k (.mov (.tmp 10))), .mk (some 49) (some (47, true)) (.k (.nilc (.tmp 48))), .mk (some 50) (some (47, true)) (.k (.fld 0 (.tmp 49))), .mk (some 51) (some (47, true)) (.k (.fld 6 (.tmp 50))), .mk (some 52) (some (47, true)) (.k (.load [.int .i64] false (.tmp 51))), .mk (some 53) (some (47, true)) (.k (.cmp .lss .i64 (.tmp 52) (.const (.int .i64 0)))), .mk (some 54) (some (47, true)) (.k (.mov (.tmp 53))), .mk (some 55) (some (54, false)) (.k (.mov (.tmp 10))), .mk (some 56) (some (54, false)) (.k (.nilc (.tmp 55))), .mk (some 57) (some (54, false)) (.k (.fld 0 (.tmp 56))), .mk (some 58) (some (54, false)) (.k (.fld 6 (.tmp 57))), .mk (some 59) (some (54, false)) (.k (.load [.int .i64] false (.tmp 58))), .mk (some 60) (some (54, false)) (.k (.mov (.tmp 7))), .mk (some 61) (some (54, false)) (.k (.cmp .gtr .i64 (.tmp 59) (.tmp 60))), .mk (some 62) (some (47, true)) (.k (.pick (.tmp 54) (.const (.bool true)) (.tmp 61))), .mk (some 63) none (.k (.pick (.tmp 47) (.tmp 62) (.const (.bool false)))), .mk (some 64) none (.k (.mov (.tmp 63))), .mk (some 65) (some (64, true)) (.k (.mov (.tmp 10))), .mk (some 66) (some (64, true)) (.k (.nilc (.tmp 65))), .mk (some 67) (some (64, true)) (.k (.fld 12 (.tmp 66))), .mk (some 68) (some (64, true)) (.k (.load [.map] false (.tmp 67))), .mk (some 69) (some (64, true)) (.k (.fld 6 (.tmp 8))), .mk (some 70) (some (64, true)) (.k (.load [.int .i64] false (.tmp 69))), .mk (some 71) (some (64, true)) (.k (.lkup (.int .i64) (.int .i64 0) false (.tmp 68) (.tmp 70))), .mk (some 72) (some (64, true)) (.k (.cmp .gtr .i64 (.tmp 71) (.const (.int .i64 0)))), .mk (some 73) none (.k (.pick (.tmp 64) (.tmp 72) (.const (.bool false))))]) (.cond (.tmp 73) (.ref 1) .skip)
def T32n3 : XC := .seq (.blk 3 (.seq (.ops [.mk (some 33) none (.k (.idx 1 (.tmp 29) (.tmp 31))), .mk (some 34) none (.k (.load [.ptr] false (.tmp 33))), .mk (some 10) none (.k (.mov (.tmp 34)))]) (.ref 2))) (.ops [.mk (some 75) none (.k (.arith .add .i64 (.tmp 31) (.const (.int .i64 1)))), .mk (some 31) none (.k (.mov (.tmp 75)))])
def T32n4 : XC := .seq (.cond (.tmp 32) .skip (.exit 2)) (.ref 3)
def T32n5 : XC := .seq (.ops [.mk (some 32) none (.k (.cmp .lss .i64 (.tmp 31) (.tmp 30)))]) (.ref 4)
def T32n6 : XC := .seq (.ops [.mk (some 29) none (.k (.mov (.tmp 5))), .mk (some 30) none (.k (.lenS (.tmp 29))), .mk (some 31) none (.k (.mov (.const (.int .i64 0))))]) (.blk 2 (.loop (.ref 5)))
def T32n7 : XC := .seq (.seq (.ops [.mk (some 26) none (.k (.load [.int .i64, .int .i64, .int .i64, .int .i64, .int .i64, .int .i64, .int .i64, .int .u64, .int .i64] true (.tmp 8))), .mk (some 27) none (.call 55 [.tmp 26]), .mk (some 28) none (.k (.not (.tmp 27)))]) (.cond (.tmp 28) (.exit 1) .skip)) (.ref 6)
def T32n8 : XC := .seq (.blk 1 (.seq (.ops [.mk (some 23) none (.k (.mov (.tmp 21))), .mk (some 24) none (.k (.idx 9 (.tmp 19) (.tmp 21))), .mk (some 25) none (.k (.load [.int .i64, .int .i64, .int .i64, .int .i64, .int .i64, .int .i64, .int .i64, .int .u64, .int .i64] true (.tmp 24))), .mk (some 8) none (.k (.alloc 65 [.int .i64 0, .int .i64 0, .int .i64 0, .int .i64 0, .int .i64 0, .int .i64 0, .int .i64 0, .int .u64 0, .int .i64 0])), .mk (some 7) none (.k (.mov (.tmp 23))), .mk none none (.k (.store 9 (.tmp 8) (.tmp 25)))]) (.ref 7))) (.ops [.mk (some 76) none (.k (.arith .add .i64 (.tmp 21) (.const (.int .i64 1)))), .mk (some 21) none (.k (.mov (.tmp 76)))])
def T32n9 : XC := .seq (.cond (.tmp 22) .skip (.exit 0)) (.ref 8)
def T32n10 : XC := .seq (.ops [.mk (some 22) none (.k (.cmp .lss .i64 (.tmp 21) (.tmp 20)))]) (.ref 9)
def T32n11 : XC := .seq (.ops [.mk (some 2) none (.k (.mov (.const (.int .i64 0)))), .mk (some 3) none (.k (.mov (.const (.bool false)))), .mk (some 4) none (.k (.mov (.const (.int .i64 0))))]) .ret
def T32n12 : XC := .seq (.seq (.ops [.mk (some 19) none (.k (.mov (.tmp 0))), .mk (some 20) none (.k (.lenS (.tmp 19))), .mk (some 21) none (.k (.mov (.const (.int .i64 0))))]) (.blk 0 (.loop (.ref 10)))) (.ref 11)
def T32n13 : XC := .seq (.seq (.ops [.mk (some 16) none (.k (.mov (.tmp 6))), .mk (some 17) none (.k (.cmp .neq .i64 (.tmp 16) (.const (.int .i64 0))))]) (.cond (.tmp 17) (.ref 0) .skip)) (.ref 12)
def T32n14 : XC := .seq (.ops [.mk (some 12) none (.k (.mov (.tmp 0))), .mk (some 13) none (.call 54 [.tmp 12]), .mk (some 11) none (.k (.mov (.tmp 13))), .mk (some 14) none (.k (.ext (.tmp 11) 0)), .mk (some 15) none (.k (.ext (.tmp 11) 1)), .mk (some 5) none (.k (.mov (.tmp 14))), .mk (some 6) none (.k (.mov (.tmp 15)))]) (.ref 13)
def T32 : Nat → XC
 | 0 => T32n0
 | 1 => T32n1
 | 2 => T32n2
 | 3 => T32n3
 | 4 => T32n4
 | 5 => T32n5
 | 6 => T32n6
 | 7 => T32n7
 | 8 => T32n8
 | 9 => T32n9
 | 10 => T32n10
 | 11 => T32n11
 | 12 => T32n12
 | 13 => T32n13
 | 14 => T32n14
 | _ => .skip
theorem t32n0 : T32 0 = T32n0 := rfl
theorem t32n1 : T32 1 = T32n1 := rfl
theorem t32n2 : T32 2 = T32n2 := rfl
theorem t32n3 : T32 3 = T32n3 := rfl
theorem t32n4 : T32 4 = T32n4 := rfl
theorem t32n5 : T32 5 = T32n5 := rfl
theorem t32n6 : T32 6 = T32n6 := rfl
theorem t32n7 : T32 7 = T32n7 := rfl
theorem t32n8 : T32 8 = T32n8 := rfl
theorem t32n9 : T32 9 = T32n9 := rfl
theorem t32n10 : T32 10 = T32n10 := rfl
theorem t32n11 : T32 11 = T32n11 := rfl
theorem t32n12 : T32 12 = T32n12 := rfl
theorem t32n13 : T32 13 = T32n13 := rfl
theorem t32n14 : T32 14 = T32n14 := rfl
def X32 : XC := .seq (.ops [.mk (some 2) none (.k (.mov (.const (.int .i64 0)))), .mk (some 3) none (.k (.mov (.const (.bool false)))), .mk (some 4) none (.k (.mov (.const (.int .i64 0))))]) (.ref 14)
abbrev K32 : List Nat := [0, 2, 3, 4, 5, 6, 7, 8, 10, 17, 19, 20, 21, 22, 28, 29, 30, 31, 32, 73]
theorem n32 : Try.f32.ntmps = 77 := by kernel_rfl
theorem r32 : resT Try.f32.results.toList = some [2, 3, 4] := by kernel_rfl
theorem x32 : cmpF Try.prog Try.f32 = some (expand T32 16 X32) := by kernel_rfl
def T33n0 : XC := .seq (.ops [.mk (some 18) none (.k (.build [.int .i64 0, .int .i64 0, .int .i64 0, .int .i64 0, .int .i64 0, .int .i64 0, .int .i64 0, .int .i64 0, .int .i64 0, .int .i64 0, .int .i64 0, .int .i64 0, .int .i64 0, .int .i64 0, .int .i64 0] [])), .mk (some 19) none (.k (.mov (.tmp 7))), .mk none none (.k (.store 15 (.tmp 4) (.tmp 18))), .mk (some 5) none (.k (.mov (.tmp 19)))]) .ret
def T33n1 : XC := .ops [.mk (some 59) none (.k (.mov (.tmp 10))), .mk (some 60) none (.k (.nilc (.tmp 59))), .mk (some 61) none (.k (.fld 0 (.tmp 60))), .mk (some 62) none (.k (.fld 3 (.tmp 61))), .mk (some 63) none (.k (.load [.int .i64] false (.tmp 62))), .mk (some 64) none (.k (.fld 0 (.tmp 8))), .mk (some 65) none (.k (.idxA 5 1 (.tmp 64) (.tmp 63))), .mk (some 66) none (.k (.load [.int .i64] false (.tmp 65))), .mk (some 67) none (.k (.arith .add .i64 (.tmp 66) (.const (.int .i64 1)))), .mk (some 68) none (.k (.fld 0 (.tmp 8))), .mk (some 69) none (.k (.idxA 5 1 (.tmp 68) (.tmp 63))), .mk none none (.k (.store 1 (.tmp 69) (.tmp 67)))]
def T33n2 : XC := .ops [.mk (some 26) none (.k (.mov (.tmp 10))), .mk (some 27) none (.k (.nilc (.tmp 26))), .mk (some 28) none (.k (.fld 0 (.tmp 27))), .mk (some 29) none (.k (.fld 10 (.tmp 28))), .mk (some 30) none (.k (.load [.int .i64] false (.tmp 29))), .mk (some 31) none (.k (.fld 5 (.tmp 8))), .mk (some 32) none (.k (.idxA 9 1 (.tmp 31) (.tmp 30))), .mk (some 33) none (.k (.load [.int .i64] false (.tmp 32))), .mk (some 34) none (.k (.arith .add .i64 (.tmp 33) (.const (.int .i64 1)))), .mk (some 35) none (.k (.fld 5 (.tmp 8))), .mk (some 36) none (.k (.idxA 9 1 (.tmp 35) (.tmp 30))), .mk none none (.k (.store 1 (.tmp 36) (.tmp 34)))]
def T33n3 : XC := .seq (.ops [.mk (some 54) none (.k (.mov (.tmp 10))), .mk (some 55) none (.k (.nilc (.tmp 54))), .mk (some 56) none (.k (.fld 0 (.tmp 55))), .mk (some 57) none (.k (.fld 9 (.tmp 56))), .mk (some 58) none (.k (.load [.bool] false (.tmp 57))), .mk (some 53) none (.k (.mov (.tmp 58)))]) (.cond (.tmp 53) (.ref 1) (.ref 2))
def T33n4 : XC := .blk 2 (.seq (.ops [.mk (some 38) none (.k (.mov (.tmp 10))), .mk (some 39) none (.k (.nilc (.tmp 38))), .mk (some 40) none (.k (.fld 0 (.tmp 39))), .mk (some 41) none (.k (.fld 0 (.tmp 40))), .mk (some 42) none (.k (.load [.int .i64] false (.tmp 41))), .mk (some 43) none (.k (.mov (.tmp 1))), .mk (some 44) none (.k (.cmp .neq .i64 (.tmp 42) (.tmp 43))), .mk (some 45) none (.k (.mov (.tmp 44))), .mk (some 46) (some (45, false)) (.k (.mov (.tmp 10))), .mk (some 47) (some (45, false)) (.k (.nilc (.tmp 46))), .mk (some 48) (some (45, false)) (.k (.fld 0 (.tmp 47))), .mk (some 49) (some (45, false)) (.k (.fld 6 (.tmp 48))), .mk (some 50) (some (45, false)) (.k (.load [.int .i64] false (.tmp 49))), .mk (some 51) (some (45, false)) (.k (.cmp .lss .i64 (.tmp 50) (.const (.int .i64 0)))), .mk (some 52) none (.k (.pick (.tmp 45) (.const (.bool true)) (.tmp 51))), .mk (some 37) none (.k (.mov (.tmp 52)))]) (.cond (.tmp 37) .skip (.ref 3)))
def T33n5 : XC := .seq (.blk 1 (.seq (.ops [.mk (some 24) none (.k (.idx 1 (.tmp 20) (.tmp 22))), .mk (some 25) none (.k (.load [.ptr] false (.tmp 24))), .mk (some 10) none (.k (.mov (.tmp 25)))]) (.ref 4))) (.ops [.mk (some 70) none (.k (.arith .add .i64 (.tmp 22) (.const (.int .i64 1)))), .mk (some 22) none (.k (.mov (.tmp 70)))])
def T33n6 : XC := .seq (.cond (.tmp 23) .skip (.exit 0)) (.ref 5)
def T33n7 : XC := .seq (.ops [.mk (some 23) none (.k (.cmp .lss .i64 (.tmp 22) (.tmp 21)))]) (.ref 6)
def T33n8 : XC := .seq (.ops [.mk (some 71) none (.k (.load [.int .i64, .int .i64, .int .i64, .int .i64, .int .i64, .int .i64, .int .i64, .int .i64, .int .i64, .int .i64, .int .i64, .int .i64, .int .i64, .int .i64, .int .i64] true (.tmp 8))), .mk none none (.k (.store 15 (.tmp 4) (.tmp 71))), .mk (some 5) none (.k (.mov (.const (.int .i64 0))))]) .ret
def T33n9 : XC := .seq (.seq (.ops [.mk (some 20) none (.k (.mov (.tmp 6))), .mk (some 21) none (.k (.lenS (.tmp 20))), .mk (some 22) none (.k (.mov (.const (.int .i64 0))))]) (.blk 0 (.loop (.ref 7)))) (.ref 8)
def T33n10 : XC := .seq (.ops [.mk (some 8) none (.k (.alloc 79 [.int .i64 0, .int .i64 0, .int .i64 0, .int .i64 0, .int .i64 0, .int .i64 0, .int .i64 0, .int .i64 0, .int .i64 0, .int .i64 0, .int .i64 0, .int .i64 0, .int .i64 0, .int .i64 0, .int .i64 0]))]) (.ref 9)
def T33n11 : XC := .seq (.seq (.ops [.mk (some 16) none (.k (.mov (.tmp 7))), .mk (some 17) none (.k (.cmp .neq .i64 (.tmp 16) (.const (.int .i64 0))))]) (.cond (.tmp 17) (.ref 0) .skip)) (.ref 10)
def T33n12 : XC := .seq (.ops [.mk (some 12) none (.k (.mov (.tmp 0))), .mk (some 13) none (.call 54 [.tmp 12]), .mk (some 11) none (.k (.mov (.tmp 13))), .mk (some 14) none (.k (.ext (.tmp 11) 0)), .mk (some 15) none (.k (.ext (.tmp 11) 1)), .mk (some 6) none (.k (.mov (.tmp 14))), .mk (some 7) none (.k (.mov (.tmp 15)))]) (.ref 11)
def T33 : Nat → XC
 | 0 => T33n0
 | 1 => T33n1
 | 2 => T33n2
 | 3 => T33n3
 | 4 => T33n4
 | 5 => T33n5
 | 6 => T33n6
 | 7 => T33n7
 | 8 => T33n8
 | 9 => T33n9
 | 10 => T33n10
 | 11 => T33n11
 | 12 => T33n12
 | _ => .skip
theorem t33n0 : T33 0 = T33n0 := rfl
theorem t33n1 : T33 1 = T33n1 := rfl
theorem t33n2 : T33 2 = T33n2 := rfl
theorem t33n3 : T33 3 = T33n3 := rfl
theorem t33n4 : T33 4 = T33n4 := rfl
theorem t33n5 : T33 5 = T33n5 := rfl
theorem t33n6 : T33 6 = T33n6 := rfl
theorem t33n7 : T33 7 = T33n7 := rfl
theorem t33n8 : T33 8 = T33n8 := rfl
theorem t33n9 : T33 9 = T33n9 := rfl
theorem t33n10 : T33 10 = T33n10 := rfl
theorem t33n11 : T33 11 = T33n11 := rfl
theorem t33n12 : T33 12 = T33n12 := rfl
def X33 : XC := .seq (.ops [.mk (some 4) none (.k (.alloc 79 [.int .i64 0, .int .i64 0, .int .i64 0, .int .i64 0, .int .i64 0, .int .i64 0, .int .i64 0, .int .i64 0, .int .i64 0, .int .i64 0, .int .i64 0, .int .i64 0, .int .i64 0, .int .i64 0, .int .i64 0])), .mk (some 5) none (.k (.mov (.const (.int .i64 0))))]) (.ref 12)
abbrev K33 : List Nat := [0, 1, 4, 5, 6, 7, 8, 10, 17, 20, 21, 22, 23, 37, 53]
theorem n33 : Try.f33.ntmps = 72 := by kernel_rfl
theorem r33 : rvOf Try.prog Try.f33.results.toList = some [RV.cell 4 15 true, RV.tmp 5] := by kernel_rfl
theorem x33 : cmpF Try.prog Try.f33 = some (expand T33 14 X33) := by kernel_rfl
def T58n0 : XC := .cond (.tmp 100) (.ops [.mk (some 8) none (.k (.mov (.const (.bool true))))]) .skip
def T58n1 : XC := .ops [.mk (some 111) none (.k (.fld 7 (.tmp 7))), .mk (some 112) none (.k (.load [.slc] false (.tmp 111))), .mk (some 113) none (.k (.load [.int .i64, .int .u64] true (.tmp 14))), .mk (some 114) none (.k (.buildS 92 1 2 [.int .i64 0, .int .u64 0] [(0, .tmp 113)])), .mk (some 115) none (.k (.app 92 2 16 (.tmp 112) (.tmp 114))), .mk (some 116) none (.k (.fld 7 (.tmp 7))), .mk none none (.k (.store 1 (.tmp 116) (.tmp 115)))]
def T58n2 : XC := .ops [.mk (some 123) none (.k (.fld 8 (.tmp 7))), .mk (some 124) none (.k (.load [.slc] false (.tmp 123))), .mk (some 125) none (.k (.mov (.tmp 13))), .mk (some 126) none (.k (.load [.int .i64, .int .u64] true (.tmp 14))), .mk (some 127) none (.k (.idx 2 (.tmp 124) (.tmp 125))), .mk none none (.k (.store 2 (.tmp 127) (.tmp 126)))]
def T58n3 : XC := .ops [.mk (some 134) none (.k (.fld 8 (.tmp 7))), .mk (some 135) none (.k (.load [.slc] false (.tmp 134))), .mk (some 136) none (.k (.load [.int .i64, .int .u64] true (.tmp 14))), .mk (some 137) none (.k (.buildS 92 1 2 [.int .i64 0, .int .u64 0] [(0, .tmp 136)])), .mk (some 138) none (.k (.app 92 2 16 (.tmp 135) (.tmp 137))), .mk (some 139) none (.k (.fld 8 (.tmp 7))), .mk none none (.k (.store 1 (.tmp 139) (.tmp 138)))]
def T58n4 : XC := .ops [.mk (some 160) none (.k (.mov (.tmp 9))), .mk (some 161) none (.k (.fld 5 (.tmp 7))), .mk none none (.k (.store 1 (.tmp 161) (.tmp 160)))]
def T58n5 : XC := .ops [.mk (some 170) none (.k (.mov (.tmp 11))), .mk (some 171) none (.k (.cmp .eql .i64 (.tmp 170) (.const (.int .i64 5)))), .mk (some 172) none (.k (.fld 9 (.tmp 7))), .mk none none (.k (.store 1 (.tmp 172) (.tmp 171)))]
def T58n6 : XC := .seq (.ops [.mk (some 168) none (.k (.mov (.tmp 9))), .mk (some 169) none (.k (.fld 6 (.tmp 7))), .mk none none (.k (.store 1 (.tmp 169) (.tmp 168)))]) (.ref 5)
def T58n7 : XC := .ops [.mk (some 175) none (.k (.mov (.tmp 0))), .mk (some 176) none (.k (.mov (.tmp 9))), .mk (some 177) none (.k (.idx 9 (.tmp 175) (.tmp 176))), .mk (some 178) none (.k (.fld 8 (.tmp 177))), .mk (some 179) none (.k (.load [.int .i64] false (.tmp 178))), .mk (some 180) none (.k (.fld 10 (.tmp 7))), .mk none none (.k (.store 1 (.tmp 180) (.tmp 179)))]
def T58n8 : XC := .seq (.ops [.mk (some 173) none (.k (.mov (.tmp 11))), .mk (some 174) none (.k (.cmp .eql .i64 (.tmp 173) (.const (.int .i64 6))))]) (.cond (.tmp 174) (.ref 7) .skip)
def T58n9 : XC := .seq (.seq (.ops [.mk (some 162) none (.k (.mov (.tmp 11))), .mk (some 163) none (.k (.cmp .eql .i64 (.tmp 162) (.const (.int .i64 5)))), .mk (some 164) none (.k (.mov (.tmp 163))), .mk (some 165) (some (164, false)) (.k (.mov (.tmp 11))), .mk (some 166) (some (164, false)) (.k (.cmp .eql .i64 (.tmp 165) (.const (.int .i64 6)))), .mk (some 167) none (.k (.pick (.tmp 164) (.const (.bool true)) (.tmp 166)))]) (.cond (.tmp 167) (.ref 6) .skip)) (.ref 8)
def T58n10 : XC := .seq (.seq (.ops [.mk (some 140) none (.k (.fld 3 (.tmp 7))), .mk (some 141) none (.k (.load [.int .i64] false (.tmp 140))), .mk (some 142) none (.k (.cmp .leq .i64 (.tmp 141) (.const (.int .i64 2)))), .mk (some 143) none (.k (.mov (.tmp 142))), .mk (some 144) (some (143, true)) (.k (.mov (.tmp 11))), .mk (some 145) (some (143, true)) (.k (.cmp .eql .i64 (.tmp 144) (.const (.int .i64 2)))), .mk (some 146) (some (143, true)) (.k (.mov (.tmp 145))), .mk (some 147) (some (146, false)) (.k (.mov (.tmp 11))), .mk (some 148) (some (146, false)) (.k (.cmp .eql .i64 (.tmp 147) (.const (.int .i64 5)))), .mk (some 149) (some (143, true)) (.k (.pick (.tmp 146) (.const (.bool true)) (.tmp 148))), .mk (some 150) none (.k (.pick (.tmp 143) (.tmp 149) (.const (.bool false)))), .mk (some 151) none (.k (.mov (.tmp 150))), .mk (some 152) (some (151, false)) (.k (.fld 3 (.tmp 7))), .mk (some 153) (some (151, false)) (.k (.load [.int .i64] false (.tmp 152))), .mk (some 154) (some (151, false)) (.k (.cmp .gtr .i64 (.tmp 153) (.const (.int .i64 2)))), .mk (some 155) (some (151, false)) (.k (.mov (.tmp 154))), .mk (some 156) (some (155, true)) (.k (.mov (.tmp 11))), .mk (some 157) (some (155, true)) (.k (.cmp .eql .i64 (.tmp 156) (.const (.int .i64 4)))), .mk (some 158) (some (151, false)) (.k (.pick (.tmp 155) (.tmp 157) (.const (.bool false)))), .mk (some 159) none (.k (.pick (.tmp 151) (.const (.bool true)) (.tmp 158)))]) (.cond (.tmp 159) (.ref 4) .skip)) (.ref 9)
def T58n11 : XC := .seq (.seq (.ops [.mk (some 128) none (.k (.mov (.tmp 11))), .mk (some 129) none (.k (.cmp .eql .i64 (.tmp 128) (.const (.int .i64 3)))), .mk (some 130) none (.k (.mov (.tmp 129))), .mk (some 131) (some (130, true)) (.k (.mov (.tmp 13))), .mk (some 132) (some (130, true)) (.k (.cmp .lss .i64 (.tmp 131) (.const (.int .i64 0)))), .mk (some 133) none (.k (.pick (.tmp 130) (.tmp 132) (.const (.bool false))))]) (.cond (.tmp 133) (.ref 3) .skip)) (.ref 10)
def T58n12 : XC := .seq (.seq (.ops [.mk (some 117) none (.k (.mov (.tmp 11))), .mk (some 118) none (.k (.cmp .eql .i64 (.tmp 117) (.const (.int .i64 3)))), .mk (some 119) none (.k (.mov (.tmp 118))), .mk (some 120) (some (119, true)) (.k (.mov (.tmp 13))), .mk (some 121) (some (119, true)) (.k (.cmp .geq .i64 (.tmp 120) (.const (.int .i64 0)))), .mk (some 122) none (.k (.pick (.tmp 119) (.tmp 121) (.const (.bool false))))]) (.cond (.tmp 122) (.ref 2) .skip)) (.ref 11)
def T58n13 : XC := .seq (.seq (.ops [.mk (some 101) none (.k (.mov (.tmp 11))), .mk (some 102) none (.k (.cmp .eql .i64 (.tmp 101) (.const (.int .i64 2)))), .mk (some 103) none (.k (.mov (.tmp 102))), .mk (some 104) (some (103, true)) (.k (.mov (.tmp 13))), .mk (some 105) (some (103, true)) (.k (.cmp .lss .i64 (.tmp 104) (.const (.int .i64 0)))), .mk (some 106) none (.k (.pick (.tmp 103) (.tmp 105) (.const (.bool false)))), .mk (some 107) none (.k (.mov (.tmp 106))), .mk (some 108) (some (107, true)) (.k (.mov (.tmp 12))), .mk (some 109) (some (107, true)) (.k (.cmp .lss .i64 (.tmp 108) (.const (.int .i64 0)))), .mk (some 110) none (.k (.pick (.tmp 107) (.tmp 109) (.const (.bool false))))]) (.cond (.tmp 110) (.ref 1) .skip)) (.ref 12)
def T58n14 : XC := .seq (.seq (.ops [.mk (some 80) none (.k (.mov (.tmp 11))), .mk (some 81) none (.k (.cmp .eql .i64 (.tmp 80) (.const (.int .i64 2)))), .mk (some 82) none (.k (.mov (.tmp 81))), .mk (some 83) (some (82, true)) (.k (.mov (.tmp 13))), .mk (some 84) (some (82, true)) (.k (.cmp .lss .i64 (.tmp 83) (.const (.int .i64 0)))), .mk (some 85) none (.k (.pick (.tmp 82) (.tmp 84) (.const (.bool false)))), .mk (some 86) none (.k (.mov (.tmp 85))), .mk (some 87) (some (86, true)) (.k (.mov (.tmp 12))), .mk (some 88) (some (86, true)) (.k (.cmp .geq .i64 (.tmp 87) (.const (.int .i64 0)))), .mk (some 89) none (.k (.pick (.tmp 86) (.tmp 88) (.const (.bool false)))), .mk (some 90) none (.k (.mov (.tmp 89))), .mk (some 91) (some (90, true)) (.k (.fld 7 (.tmp 7))), .mk (some 92) (some (90, true)) (.k (.load [.slc] false (.tmp 91))), .mk (some 93) (some (90, true)) (.k (.mov (.tmp 12))), .mk (some 94) (some (90, true)) (.k (.idx 2 (.tmp 92) (.tmp 93))), .mk (some 95) (some (90, true)) (.k (.fld 1 (.tmp 94))), .mk (some 96) (some (90, true)) (.k (.load [.int .u64] false (.tmp 95))), .mk (some 97) (some (90, true)) (.k (.fld 1 (.tmp 14))), .mk (some 98) (some (90, true)) (.k (.load [.int .u64] false (.tmp 97))), .mk (some 99) (some (90, true)) (.k (.cmp .neq .u64 (.tmp 96) (.tmp 98))), .mk (some 100) none (.k (.pick (.tmp 90) (.tmp 99) (.const (.bool false))))]) (.ref 0)) (.ref 13)
def T58n15 : XC := .seq (.ops [.mk (some 69) none (.k (.mov (.tmp 0))), .mk (some 70) none (.k (.mov (.tmp 9))), .mk (some 71) none (.k (.idx 9 (.tmp 69) (.tmp 70))), .mk (some 72) none (.k (.fld 6 (.tmp 71))), .mk (some 73) none (.k (.load [.int .i64] false (.tmp 72))), .mk (some 74) none (.k (.mov (.tmp 0))), .mk (some 75) none (.k (.mov (.tmp 9))), .mk (some 76) none (.k (.idx 9 (.tmp 74) (.tmp 75))), .mk (some 77) none (.k (.fld 7 (.tmp 76))), .mk (some 78) none (.k (.load [.int .u64] false (.tmp 77))), .mk (some 79) none (.k (.build [.int .i64 0, .int .u64 0] [(0, 1, .tmp 73), (1, 1, .tmp 78)])), .mk (some 14) none (.k (.alloc 92 [.int .i64 0, .int .u64 0])), .mk none none (.k (.store 2 (.tmp 14) (.tmp 79)))]) (.ref 14)
def T58n16 : XC := .seq (.ops [.mk (some 61) none (.k (.fld 8 (.tmp 7))), .mk (some 62) none (.k (.load [.slc] false (.tmp 61))), .mk (some 63) none (.k (.mov (.tmp 0))), .mk (some 64) none (.k (.mov (.tmp 9))), .mk (some 65) none (.k (.idx 9 (.tmp 63) (.tmp 64))), .mk (some 66) none (.k (.fld 6 (.tmp 65))), .mk (some 67) none (.k (.load [.int .i64] false (.tmp 66))), .mk (some 68) none (.call 72 [.tmp 62, .tmp 67]), .mk (some 13) none (.k (.mov (.tmp 68)))]) (.ref 15)
def T58n17 : XC := .seq (.ops [.mk (some 53) none (.k (.fld 7 (.tmp 7))), .mk (some 54) none (.k (.load [.slc] false (.tmp 53))), .mk (some 55) none (.k (.mov (.tmp 0))), .mk (some 56) none (.k (.mov (.tmp 9))), .mk (some 57) none (.k (.idx 9 (.tmp 55) (.tmp 56))), .mk (some 58) none (.k (.fld 6 (.tmp 57))), .mk (some 59) none (.k (.load [.int .i64] false (.tmp 58))), .mk (some 60) none (.call 72 [.tmp 54, .tmp 59]), .mk (some 12) none (.k (.mov (.tmp 60)))]) (.ref 16)
def T58n18 : XC := .seq (.ops [.mk (some 48) none (.k (.mov (.tmp 0))), .mk (some 49) none (.k (.mov (.tmp 9))), .mk (some 50) none (.k (.idx 9 (.tmp 48) (.tmp 49))), .mk (some 51) none (.k (.fld 0 (.tmp 50))), .mk (some 52) none (.k (.load [.int .i64] false (.tmp 51))), .mk (some 11) none (.k (.mov (.tmp 52)))]) (.ref 17)
def T58n19 : XC := .seq (.seq (.ops [.mk (some 46) none (.k (.mov (.tmp 10))), .mk (some 47) none (.k (.not (.tmp 46)))]) (.cond (.tmp 47) (.exit 1) .skip)) (.ref 18)
def T58n20 : XC := .ops [.mk (some 40) none (.k (.mov (.tmp 9))), .mk (some 41) none (.k (.arith .add .i64 (.tmp 40) (.const (.int .i64 1)))), .mk (some 9) none (.k (.mov (.tmp 41)))]
def T58n21 : XC := .seq (.blk 1 (.seq (.ops [.mk (some 42) none (.k (.mov (.tmp 0))), .mk (some 43) none (.k (.load [.int .i64, .int .i64, .int .i64, .int .i64, .int .i64, .int .i64, .int .i64, .slc, .slc, .bool, .int .i64] true (.tmp 7))), .mk (some 44) none (.k (.mov (.tmp 9))), .mk (some 45) none (.call 71 [.tmp 42, .tmp 43, .tmp 44]), .mk (some 10) none (.k (.mov (.tmp 45)))]) (.ref 19))) (.ref 20)
def T58n22 : XC := .seq (.seq (.ops [.mk (some 31) none (.k (.mov (.tmp 9))), .mk (some 32) none (.k (.mov (.tmp 0))), .mk (some 33) none (.k (.lenS (.tmp 32))), .mk (some 34) none (.k (.cmp .lss .i64 (.tmp 31) (.tmp 33))), .mk (some 35) none (.k (.mov (.tmp 34))), .mk (some 36) (some (35, true)) (.k (.fld 6 (.tmp 7))), .mk (some 37) (some (35, true)) (.k (.load [.int .i64] false (.tmp 36))), .mk (some 38) (some (35, true)) (.k (.cmp .lss .i64 (.tmp 37) (.const (.int .i64 0)))), .mk (some 39) none (.k (.pick (.tmp 35) (.tmp 38) (.const (.bool false))))]) (.cond (.tmp 39) .skip (.exit 0))) (.ref 21)
def T58n23 : XC := .seq (.ops [.mk (some 181) none (.k (.load [.int .i64, .int .i64, .int .i64, .int .i64, .int .i64, .int .i64, .int .i64, .slc, .slc, .bool, .int .i64] true (.tmp 7))), .mk (some 182) none (.k (.mov (.tmp 8))), .mk none none (.k (.store 11 (.tmp 4) (.tmp 181))), .mk (some 5) none (.k (.mov (.tmp 182)))]) .ret
def T58n24 : XC := .seq (.seq (.ops [.mk (some 29) none (.k (.mov (.tmp 1))), .mk (some 30) none (.k (.arith .add .i64 (.tmp 29) (.const (.int .i64 1)))), .mk (some 9) none (.k (.mov (.tmp 30)))]) (.blk 0 (.loop (.ref 22)))) (.ref 23)
def T58n25 : XC := .seq (.ops [.mk (some 8) none (.k (.mov (.const (.bool false))))]) (.ref 24)
def T58n26 : XC := .seq (.ops [.mk (some 19) none (.k (.fld 2 (.tmp 6))), .mk (some 20) none (.k (.load [.int .i64] false (.tmp 19))), .mk (some 21) none (.k (.fld 3 (.tmp 6))), .mk (some 22) none (.k (.load [.int .i64] false (.tmp 21))), .mk (some 23) none (.k (.fld 4 (.tmp 6))), .mk (some 24) none (.k (.load [.int .i64] false (.tmp 23))), .mk (some 25) none (.k (.fld 5 (.tmp 6))), .mk (some 26) none (.k (.load [.int .i64] false (.tmp 25))), .mk (some 27) none (.k (.mov (.tmp 1))), .mk (some 28) none (.k (.build [.int .i64 0, .int .i64 0, .int .i64 0, .int .i64 0, .int .i64 0, .int .i64 0, .int .i64 0, .slice none 0 0, .slice none 0 0, .bool false, .int .i64 0] [(0, 1, .tmp 20), (1, 1, .tmp 22), (2, 1, .tmp 24), (3, 1, .tmp 26), (4, 1, .tmp 27), (5, 1, .const (.int .i64 (-1))), (6, 1, .const (.int .i64 (-1)))])), .mk (some 7) none (.k (.alloc 90 [.int .i64 0, .int .i64 0, .int .i64 0, .int .i64 0, .int .i64 0, .int .i64 0, .int .i64 0, .slice none 0 0, .slice none 0 0, .bool false, .int .i64 0])), .mk none none (.k (.store 11 (.tmp 7) (.tmp 28)))]) (.ref 25)
def T58n27 : XC := .seq (.ops [.mk (some 15) none (.k (.mov (.tmp 0))), .mk (some 16) none (.k (.mov (.tmp 1))), .mk (some 17) none (.k (.idx 9 (.tmp 15) (.tmp 16))), .mk (some 18) none (.k (.load [.int .i64, .int .i64, .int .i64, .int .i64, .int .i64, .int .i64, .int .i64, .int .u64, .int .i64] true (.tmp 17))), .mk (some 6) none (.k (.alloc 65 [.int .i64 0, .int .i64 0, .int .i64 0, .int .i64 0, .int .i64 0, .int .i64 0, .int .i64 0, .int .u64 0, .int .i64 0])), .mk none none (.k (.store 9 (.tmp 6) (.tmp 18)))]) (.ref 26)
def T58 : Nat → XC
 | 0 => T58n0
 | 1 => T58n1
 | 2 => T58n2
 | 3 => T58n3
 | 4 => T58n4
 | 5 => T58n5
 | 6 => T58n6
 | 7 => T58n7
 | 8 => T58n8
 | 9 => T58n9
 | 10 => T58n10
 | 11 => T58n11
 | 12 => T58n12
 | 13 => T58n13
 | 14 => T58n14
 | 15 => T58n15
 | 16 => T58n16
 | 17 => T58n17
 | 18 => T58n18
 | 19 => T58n19
 | 20 => T58n20
 | 21 => T58n21
 | 22 => T58n22
 | 23 => T58n23
 | 24 => T58n24
 | 25 => T58n25
 | 26 => T58n26
 | 27 => T58n27
 | _ => .skip
theorem t58n0 : T58 0 = T58n0 := rfl
theorem t58n1 : T58 1 = T58n1 := rfl
theorem t58n2 : T58 2 = T58n2 := rfl
theorem t58n3 : T58 3 = T58n3 := rfl
theorem t58n4 : T58 4 = T58n4 := rfl
theorem t58n5 : T58 5 = T58n5 := rfl
theorem t58n6 : T58 6 = T58n6 := rfl
theorem t58n7 : T58 7 = T58n7 := rfl
theorem t58n8 : T58 8 = T58n8 := rfl
theorem t58n9 : T58 9 = T58n9 := rfl
theorem t58n10 : T58 10 = T58n10 := rfl
theorem t58n11 : T58 11 = T58n11 := rfl
theorem t58n12 : T58 12 = T58n12 := rfl
theorem t58n13 : T58 13 = T58n13 := rfl
theorem t58n14 : T58 14 = T58n14 := rfl
theorem t58n15 : T58 15 = T58n15 := rfl
theorem t58n16 : T58 16 = T58n16 := rfl
theorem t58n17 : T58 17 = T58n17 := rfl
theorem t58n18 : T58 18 = T58n18 := rfl
theorem t58n19 : T58 19 = T58n19 := rfl
theorem t58n20 : T58 20 = T58n20 := rfl
theorem t58n21 : T58 21 = T58n21 := rfl
theorem t58n22 : T58 22 = T58n22 := rfl
theorem t58n23 : T58 23 = T58n23 := rfl
theorem t58n24 : T58 24 = T58n24 := rfl
theorem t58n25 : T58 25 = T58n25 := rfl
theorem t58n26 : T58 26 = T58n26 := rfl
theorem t58n27 : T58 27 = T58n27 := rfl
def X58 : XC := .seq (.ops [.mk (some 4) none (.k (.alloc 90 [.int .i64 0, .int .i64 0, .int .i64 0, .int .i64 0, .int .i64 0, .int .i64 0, .int .i64 0, .slice none 0 0, .slice none 0 0, .bool false, .int .i64 0])), .mk (some 5) none (.k (.mov (.const (.bool false))))]) (.ref 27)
abbrev K58 : List Nat := [0, 1, 4, 5, 6, 7, 8, 9, 10, 11, 12, 13, 14, 39, 47, 100, 110, 122, 133, 159, 167, 174]
theorem n58 : Try.f58.ntmps = 183 := by kernel_rfl
theorem r58 : rvOf Try.prog Try.f58.results.toList = some [RV.cell 4 11 true, RV.tmp 5] := by kernel_rfl
theorem x58 : cmpF Try.prog Try.f58 = some (expand T58 29 X58) := by kernel_rfl
def T59n0 : XC := .seq (.ops [.mk (some 6) none (.k (.mov (.const (.bool true))))]) .ret
def T59n1 : XC := .seq (.ops [.mk (some 32) none (.k (.mov (.tmp 8))), .mk (some 33) none (.k (.mov (.tmp 32))), .mk (some 34) (some (33, true)) (.k (.mov (.tmp 0))), .mk (some 35) (some (33, true)) (.k (.mov (.tmp 7))), .mk (some 36) (some (33, true)) (.k (.idx 9 (.tmp 34) (.tmp 35))), .mk (some 37) (some (33, true)) (.k (.fld 0 (.tmp 36))), .mk (some 38) (some (33, true)) (.k (.load [.int .i64] false (.tmp 37))), .mk (some 39) (some (33, true)) (.k (.cmp .eql .i64 (.tmp 38) (.const (.int .i64 2)))), .mk (some 40) (some (33, true)) (.k (.mov (.tmp 39))), .mk (some 41) (some (40, false)) (.k (.mov (.tmp 0))), .mk (some 42) (some (40, false)) (.k (.mov (.tmp 7))), .mk (some 43) (some (40, false)) (.k (.idx 9 (.tmp 41) (.tmp 42))), .mk (some 44) (some (40, false)) (.k (.fld 0 (.tmp 43))), .mk (some 45) (some (40, false)) (.k (.load [.int .i64] false (.tmp 44))), .mk (some 46) (some (40, false)) (.k (.cmp .eql .i64 (.tmp 45) (.const (.int .i64 3)))), .mk (some 47) (some (33, true)) (.k (.pick (.tmp 40) (.const (.bool true)) (.tmp 46))), .mk (some 48) none (.k (.pick (.tmp 33) (.tmp 47) (.const (.bool false)))), .mk (some 49) none (.k (.mov (.tmp 48))), .mk (some 50) (some (49, true)) (.k (.mov (.tmp 0))), .mk (some 51) (some (49, true)) (.k (.mov (.tmp 7))), .mk (some 52) (some (49, true)) (.k (.idx 9 (.tmp 50) (.tmp 51))), .mk (some 53) (some (49, true)) (.k (.fld 6 (.tmp 52))), .mk (some 54) (some (49, true)) (.k (.load [.int .i64] false (.tmp 53))), .mk (some 55) (some (49, true)) (.k (.mov (.tmp 2))), .mk (some 56) (some (49, true)) (.k (.cmp .eql .i64 (.tmp 54) (.tmp 55))), .mk (some 57) none (.k (.pick (.tmp 49) (.tmp 56) (.const (.bool false))))]) (.cond (.tmp 57) (.ref 0) .skip)
def T59n2 : XC := .ops [.mk (some 26) none (.k (.mov (.tmp 7))), .mk (some 27) none (.k (.arith .add .i64 (.tmp 26) (.const (.int .i64 1)))), .mk (some 7) none (.k (.mov (.tmp 27)))]
def T59n3 : XC := .seq (.blk 1 (.seq (.ops [.mk (some 28) none (.k (.mov (.tmp 0))), .mk (some 29) none (.k (.load [.int .i64, .int .i64, .int .i64, .int .i64, .int .i64, .int .i64, .int .i64, .slc, .slc, .bool, .int .i64] true (.tmp 4))), .mk (some 30) none (.k (.mov (.tmp 7))), .mk (some 31) none (.call 71 [.tmp 28, .tmp 29, .tmp 30]), .mk (some 8) none (.k (.mov (.tmp 31)))]) (.ref 1))) (.ref 2)
def T59n4 : XC := .seq (.seq (.ops [.mk (some 11) none (.k (.mov (.tmp 7))), .mk (some 12) none (.k (.mov (.tmp 0))), .mk (some 13) none (.k (.lenS (.tmp 12))), .mk (some 14) none (.k (.cmp .lss .i64 (.tmp 11) (.tmp 13))), .mk (some 15) none (.k (.mov (.tmp 14))), .mk (some 16) (some (15, true)) (.k (.fld 6 (.tmp 4))), .mk (some 17) (some (15, true)) (.k (.load [.int .i64] false (.tmp 16))), .mk (some 18) (some (15, true)) (.k (.cmp .lss .i64 (.tmp 17) (.const (.int .i64 0)))), .mk (some 19) (some (15, true)) (.k (.mov (.tmp 18))), .mk (some 20) (some (19, false)) (.k (.mov (.tmp 7))), .mk (some 21) (some (19, false)) (.k (.fld 6 (.tmp 4))), .mk (some 22) (some (19, false)) (.k (.load [.int .i64] false (.tmp 21))), .mk (some 23) (some (19, false)) (.k (.cmp .lss .i64 (.tmp 20) (.tmp 22))), .mk (some 24) (some (15, true)) (.k (.pick (.tmp 19) (.const (.bool true)) (.tmp 23))), .mk (some 25) none (.k (.pick (.tmp 15) (.tmp 24) (.const (.bool false))))]) (.cond (.tmp 25) .skip (.exit 0))) (.ref 3)
def T59n5 : XC := .seq (.ops [.mk (some 6) none (.k (.mov (.const (.bool false))))]) .ret
def T59n6 : XC := .seq (.seq (.ops [.mk (some 9) none (.k (.fld 4 (.tmp 4))), .mk (some 10) none (.k (.load [.int .i64] false (.tmp 9))), .mk (some 7) none (.k (.mov (.tmp 10)))]) (.blk 0 (.loop (.ref 4)))) (.ref 5)
def T59 : Nat → XC
 | 0 => T59n0
 | 1 => T59n1
 | 2 => T59n2
 | 3 => T59n3
 | 4 => T59n4
 | 5 => T59n5
 | 6 => T59n6
 | _ => .skip
theorem t59n0 : T59 0 = T59n0 := rfl
theorem t59n1 : T59 1 = T59n1 := rfl
theorem t59n2 : T59 2 = T59n2 := rfl
theorem t59n3 : T59 3 = T59n3 := rfl
theorem t59n4 : T59 4 = T59n4 := rfl
theorem t59n5 : T59 5 = T59n5 := rfl
theorem t59n6 : T59 6 = T59n6 := rfl
def X59 : XC := .seq (.ops [.mk (some 4) none (.k (.box 90 11 (.tmp 1))), .mk (some 6) none (.k (.mov (.const (.bool false))))]) (.ref 6)
abbrev K59 : List Nat := [0, 1, 2, 4, 6, 7, 8, 25, 57]
theorem n59 : Try.f59.ntmps = 58 := by kernel_rfl
theorem r59 : resT Try.f59.results.toList = some [6] := by kernel_rfl
theorem x59 : cmpF Try.prog Try.f59 = some (expand T59 8 X59) := by kernel_rfl
def T71n0 : XC := .seq (.ops [.mk (some 7) none (.k (.mov (.tmp 2))), .mk (some 8) none (.k (.fld 4 (.tmp 4))), .mk (some 9) none (.k (.load [.int .i64] false (.tmp 8))), .mk (some 10) none (.k (.cmp .gtr .i64 (.tmp 7) (.tmp 9))), .mk (some 11) none (.k (.mov (.tmp 10))), .mk (some 12) (some (11, true)) (.k (.mov (.tmp 0))), .mk (some 13) (some (11, true)) (.k (.mov (.tmp 2))), .mk (some 14) (some (11, true)) (.k (.idx 9 (.tmp 12) (.tmp 13))), .mk (some 15) (some (11, true)) (.k (.fld 2 (.tmp 14))), .mk (some 16) (some (11, true)) (.k (.load [.int .i64] false (.tmp 15))), .mk (some 17) (some (11, true)) (.k (.fld 0 (.tmp 4))), .mk (some 18) (some (11, true)) (.k (.load [.int .i64] false (.tmp 17))), .mk (some 19) (some (11, true)) (.k (.cmp .eql .i64 (.tmp 16) (.tmp 18))), .mk (some 20) none (.k (.pick (.tmp 11) (.tmp 19) (.const (.bool false)))), .mk (some 21) none (.k (.mov (.tmp 20))), .mk (some 22) (some (21, true)) (.k (.mov (.tmp 0))), .mk (some 23) (some (21, true)) (.k (.mov (.tmp 2))), .mk (some 24) (some (21, true)) (.k (.idx 9 (.tmp 22) (.tmp 23))), .mk (some 25) (some (21, true)) (.k (.fld 3 (.tmp 24))), .mk (some 26) (some (21, true)) (.k (.load [.int .i64] false (.tmp 25))), .mk (some 27) (some (21, true)) (.k (.fld 1 (.tmp 4))), .mk (some 28) (some (21, true)) (.k (.load [.int .i64] false (.tmp 27))), .mk (some 29) (some (21, true)) (.k (.cmp .eql .i64 (.tmp 26) (.tmp 28))), .mk (some 30) none (.k (.pick (.tmp 21) (.tmp 29) (.const (.bool false)))), .mk (some 31) none (.k (.mov (.tmp 30))), .mk (some 32) (some (31, true)) (.k (.mov (.tmp 0))), .mk (some 33) (some (31, true)) (.k (.mov (.tmp 2))), .mk (some 34) (some (31, true)) (.k (.idx 9 (.tmp 32) (.tmp 33))), .mk (some 35) (some (31, true)) (.k (.fld 4 (.tmp 34))), .mk (some 36) (some (31, true)) (.k (.load [.int .i64] false (.tmp 35))), .mk (some 37) (some (31, true)) (.k (.fld 2 (.tmp 4))), .mk (some 38) (some (31, true)) (.k (.load [.int .i64] false (.tmp 37))), .mk (some 39) (some (31, true)) (.k (.cmp .eql .i64 (.tmp 36) (.tmp 38))), .mk (some 40) none (.k (.pick (.tmp 31) (.tmp 39) (.const (.bool false)))), .mk (some 41) none (.k (.mov (.tmp 40))), .mk (some 42) (some (41, true)) (.k (.mov (.tmp 0))), .mk (some 43) (some (41, true)) (.k (.mov (.tmp 2))), .mk (some 44) (some (41, true)) (.k (.idx 9 (.tmp 42) (.tmp 43))), .mk (some 45) (some (41, true)) (.k (.fld 0 (.tmp 44))), .mk (some 46) (some (41, true)) (.k (.load [.int .i64] false (.tmp 45))), .mk (some 47) (some (41, true)) (.k (.cmp .geq .i64 (.tmp 46) (.const (.int .i64 2)))), .mk (some 48) none (.k (.pick (.tmp 41) (.tmp 47) (.const (.bool false)))), .mk (some 49) none (.k (.mov (.tmp 48))), .mk (some 50) (some (49, true)) (.k (.mov (.tmp 0))), .mk (some 51) (some (49, true)) (.k (.mov (.tmp 2))), .mk (some 52) (some (49, true)) (.k (.idx 9 (.tmp 50) (.tmp 51))), .mk (some 53) (some (49, true)) (.k (.fld 0 (.tmp 52))), .mk (some 54) (some (49, true)) (.k (.load [.int .i64] false (.tmp 53))), .mk (some 55) (some (49, true)) (.k (.cmp .leq .i64 (.tmp 54) (.const (.int .i64 6)))), .mk (some 56) none (.k (.pick (.tmp 49) (.tmp 55) (.const (.bool false)))), .mk (some 6) none (.k (.mov (.tmp 56)))]) .ret
def T71 : Nat → XC
 | 0 => T71n0
 | _ => .skip
theorem t71n0 : T71 0 = T71n0 := rfl
def X71 : XC := .seq (.ops [.mk (some 4) none (.k (.box 90 11 (.tmp 1))), .mk (some 6) none (.k (.mov (.const (.bool false))))]) (.ref 0)
abbrev K71 : List Nat := [0, 1, 2, 4, 6]
theorem n71 : Try.f71.ntmps = 57 := by kernel_rfl
theorem r71 : resT Try.f71.results.toList = some [6] := by kernel_rfl
theorem x71 : cmpF Try.prog Try.f71 = some (expand T71 2 X71) := by kernel_rfl
def T72n0 : XC := .seq (.ops [.mk (some 19) none (.k (.mov (.tmp 5))), .mk (some 4) none (.k (.mov (.tmp 19)))]) .ret
def T72n1 : XC := .ops [.mk (some 10) none (.k (.mov (.tmp 5))), .mk (some 11) none (.k (.arith .add .i64 (.tmp 10) (.const (.int .i64 1)))), .mk (some 5) none (.k (.mov (.tmp 11)))]
def T72n2 : XC := .seq (.blk 1 (.seq (.ops [.mk (some 12) none (.k (.mov (.tmp 0))), .mk (some 13) none (.k (.mov (.tmp 5))), .mk (some 14) none (.k (.idx 2 (.tmp 12) (.tmp 13))), .mk (some 15) none (.k (.fld 0 (.tmp 14))), .mk (some 16) none (.k (.load [.int .i64] false (.tmp 15))), .mk (some 17) none (.k (.mov (.tmp 1))), .mk (some 18) none (.k (.cmp .eql .i64 (.tmp 16) (.tmp 17)))]) (.cond (.tmp 18) (.ref 0) .skip))) (.ref 1)
def T72n3 : XC := .seq (.seq (.ops [.mk (some 6) none (.k (.mov (.tmp 5))), .mk (some 7) none (.k (.mov (.tmp 0))), .mk (some 8) none (.k (.lenS (.tmp 7))), .mk (some 9) none (.k (.cmp .lss .i64 (.tmp 6) (.tmp 8)))]) (.cond (.tmp 9) .skip (.exit 0))) (.ref 2)
def T72n4 : XC := .seq (.ops [.mk (some 4) none (.k (.mov (.const (.int .i64 (-1)))))]) .ret
def T72n5 : XC := .seq (.seq (.ops [.mk (some 5) none (.k (.mov (.const (.int .i64 0))))]) (.blk 0 (.loop (.ref 3)))) (.ref 4)
def T72 : Nat → XC
 | 0 => T72n0
 | 1 => T72n1
 | 2 => T72n2
 | 3 => T72n3
 | 4 => T72n4
 | 5 => T72n5
 | _ => .skip
theorem t72n0 : T72 0 = T72n0 := rfl
theorem t72n1 : T72 1 = T72n1 := rfl
theorem t72n2 : T72 2 = T72n2 := rfl
theorem t72n3 : T72 3 = T72n3 := rfl
theorem t72n4 : T72 4 = T72n4 := rfl
theorem t72n5 : T72 5 = T72n5 := rfl
def X72 : XC := .seq (.ops [.mk (some 4) none (.k (.mov (.const (.int .i64 0))))]) (.ref 5)
abbrev K72 : List Nat := [0, 1, 4, 5, 9, 18]
theorem n72 : Try.f72.ntmps = 20 := by kernel_rfl
theorem r72 : resT Try.f72.results.toList = some [4] := by kernel_rfl
theorem x72 : cmpF Try.prog Try.f72 = some (expand T72 7 X72) := by kernel_rfl
def T35n0 : XC := .ops [.mk (some 31) none (.k (.mov (.tmp 5))), .mk (some 32) none (.k (.mov (.tmp 8))), .mk (some 33) none (.k (.buildS 4 1 1 [.bool false] [(0, .tmp 32)])), .mk (some 34) none (.k (.app 4 1 1 (.tmp 31) (.tmp 33))), .mk (some 5) none (.k (.mov (.tmp 34)))]
def T35n1 : XC := .seq (.ops [.mk (some 27) none (.k (.mov (.tmp 4))), .mk (some 28) none (.k (.load [.int .i64, .int .i64, .int .i64, .int .i64, .int .i64, .int .i64, .int .i64, .slc, .slc, .bool, .int .i64] true (.tmp 7))), .mk (some 29) none (.k (.buildS 90 1 11 [.int .i64 0, .int .i64 0, .int .i64 0, .int .i64 0, .int .i64 0, .int .i64 0, .int .i64 0, .slice none 0 0, .slice none 0 0, .bool false, .int .i64 0] [(0, .tmp 28)])), .mk (some 30) none (.k (.app 90 11 120 (.tmp 27) (.tmp 29))), .mk (some 4) none (.k (.mov (.tmp 30)))]) (.ref 0)
def T35n2 : XC := .seq (.ops [.mk (some 22) none (.k (.mov (.tmp 0))), .mk (some 23) none (.k (.mov (.tmp 6))), .mk (some 24) none (.call 58 [.tmp 22, .tmp 23]), .mk (some 21) none (.k (.mov (.tmp 24))), .mk (some 25) none (.k (.ext (.tmp 21) 0)), .mk (some 26) none (.k (.ext (.tmp 21) 1)), .mk (some 7) none (.k (.alloc 90 [.int .i64 0, .int .i64 0, .int .i64 0, .int .i64 0, .int .i64 0, .int .i64 0, .int .i64 0, .slice none 0 0, .slice none 0 0, .bool false, .int .i64 0])), .mk none none (.k (.store 11 (.tmp 7) (.tmp 25))), .mk (some 8) none (.k (.mov (.tmp 26)))]) (.ref 1)
def T35n3 : XC := .ops [.mk (some 13) none (.k (.mov (.tmp 6))), .mk (some 14) none (.k (.arith .add .i64 (.tmp 13) (.const (.int .i64 1)))), .mk (some 6) none (.k (.mov (.tmp 14)))]
def T35n4 : XC := .seq (.blk 1 (.seq (.ops [.mk (some 15) none (.k (.mov (.tmp 0))), .mk (some 16) none (.k (.mov (.tmp 6))), .mk (some 17) none (.k (.idx 9 (.tmp 15) (.tmp 16))), .mk (some 18) none (.k (.fld 0 (.tmp 17))), .mk (some 19) none (.k (.load [.int .i64] false (.tmp 18))), .mk (some 20) none (.k (.cmp .eql .i64 (.tmp 19) (.const (.int .i64 1))))]) (.cond (.tmp 20) (.ref 2) .skip))) (.ref 3)
def T35n5 : XC := .seq (.seq (.ops [.mk (some 9) none (.k (.mov (.tmp 6))), .mk (some 10) none (.k (.mov (.tmp 0))), .mk (some 11) none (.k (.lenS (.tmp 10))), .mk (some 12) none (.k (.cmp .lss .i64 (.tmp 9) (.tmp 11)))]) (.cond (.tmp 12) .skip (.exit 0))) (.ref 4)
def T35n6 : XC := .seq (.ops [.mk (some 35) none (.k (.mov (.tmp 4))), .mk (some 36) none (.k (.mov (.tmp 5))), .mk (some 2) none (.k (.mov (.tmp 35))), .mk (some 3) none (.k (.mov (.tmp 36)))]) .ret
def T35n7 : XC := .seq (.seq (.ops [.mk (some 6) none (.k (.mov (.const (.int .i64 0))))]) (.blk 0 (.loop (.ref 5)))) (.ref 6)
def T35n8 : XC := .seq (.ops [.mk (some 5) none (.k (.mov (.const (.slice none 0 0))))]) (.ref 7)
def T35n9 : XC := .seq (.ops [.mk (some 4) none (.k (.mov (.const (.slice none 0 0))))]) (.ref 8)
def T35 : Nat → XC
 | 0 => T35n0
 | 1 => T35n1
 | 2 => T35n2
 | 3 => T35n3
 | 4 => T35n4
 | 5 => T35n5
 | 6 => T35n6
 | 7 => T35n7
 | 8 => T35n8
 | 9 => T35n9
 | _ => .skip
theorem t35n0 : T35 0 = T35n0 := rfl
theorem t35n1 : T35 1 = T35n1 := rfl
theorem t35n2 : T35 2 = T35n2 := rfl
theorem t35n3 : T35 3 = T35n3 := rfl
theorem t35n4 : T35 4 = T35n4 := rfl
theorem t35n5 : T35 5 = T35n5 := rfl
theorem t35n6 : T35 6 = T35n6 := rfl
theorem t35n7 : T35 7 = T35n7 := rfl
theorem t35n8 : T35 8 = T35n8 := rfl
theorem t35n9 : T35 9 = T35n9 := rfl
def X35 : XC := .seq (.ops [.mk (some 2) none (.k (.mov (.const (.slice none 0 0)))), .mk (some 3) none (.k (.mov (.const (.slice none 0 0))))]) (.ref 9)
abbrev K35 : List Nat := [0, 2, 3, 4, 5, 6, 7, 8, 12, 20]
theorem n35 : Try.f35.ntmps = 37 := by kernel_rfl
theorem r35 : resT Try.f35.results.toList = some [2, 3] := by kernel_rfl
theorem x35 : cmpF Try.prog Try.f35 = some (expand T35 11 X35) := by kernel_rfl
def T36n0 : XC := .seq (.ops [.mk (some 80) none (.k (.mov (.tmp 6))), .mk (some 2) none (.k (.mov (.tmp 80))), .mk (some 3) none (.k (.mov (.const (.bool true))))]) .ret
def T36n1 : XC := .seq (.ops [.mk (some 66) none (.k (.mov (.tmp 8))), .mk (some 67) none (.k (.mov (.tmp 66))), .mk (some 68) (some (67, true)) (.k (.mov (.tmp 0))), .mk (some 69) (some (67, true)) (.k (.mov (.tmp 4))), .mk (some 70) (some (67, true)) (.k (.mov (.tmp 7))), .mk (some 71) (some (67, true)) (.k (.idx 11 (.tmp 69) (.tmp 70))), .mk (some 72) (some (67, true)) (.k (.load [.int .i64, .int .i64, .int .i64, .int .i64, .int .i64, .int .i64, .int .i64, .slc, .slc, .bool, .int .i64] true (.tmp 71))), .mk (some 73) (some (67, true)) (.k (.mov (.tmp 0))), .mk (some 74) (some (67, true)) (.k (.mov (.tmp 6))), .mk (some 75) (some (67, true)) (.k (.idx 9 (.tmp 73) (.tmp 74))), .mk (some 76) (some (67, true)) (.k (.fld 6 (.tmp 75))), .mk (some 77) (some (67, true)) (.k (.load [.int .i64] false (.tmp 76))), .mk (some 78) (some (67, true)) (.call 59 [.tmp 68, .tmp 72, .tmp 77]), .mk (some 79) none (.k (.pick (.tmp 67) (.tmp 78) (.const (.bool false))))]) (.cond (.tmp 79) (.ref 0) .skip)
def T36n2 : XC := .ops [.mk (some 32) none (.k (.mov (.tmp 7))), .mk (some 33) none (.k (.arith .add .i64 (.tmp 32) (.const (.int .i64 1)))), .mk (some 7) none (.k (.mov (.tmp 33)))]
def T36n3 : XC := .seq (.blk 3 (.seq (.ops [.mk (some 34) none (.k (.mov (.tmp 4))), .mk (some 35) none (.k (.mov (.tmp 7))), .mk (some 36) none (.k (.idx 11 (.tmp 34) (.tmp 35))), .mk (some 37) none (.k (.fld 3 (.tmp 36))), .mk (some 38) none (.k (.load [.int .i64] false (.tmp 37))), .mk (some 39) none (.k (.cmp .gtr .i64 (.tmp 38) (.const (.int .i64 2)))), .mk (some 40) none (.k (.mov (.tmp 39))), .mk (some 41) (some (40, true)) (.k (.mov (.tmp 4))), .mk (some 42) (some (40, true)) (.k (.mov (.tmp 7))), .mk (some 43) (some (40, true)) (.k (.idx 11 (.tmp 41) (.tmp 42))), .mk (some 44) (some (40, true)) (.k (.fld 4 (.tmp 43))), .mk (some 45) (some (40, true)) (.k (.load [.int .i64] false (.tmp 44))), .mk (some 46) (some (40, true)) (.k (.mov (.tmp 6))), .mk (some 47) (some (40, true)) (.k (.cmp .lss .i64 (.tmp 45) (.tmp 46))), .mk (some 48) none (.k (.pick (.tmp 40) (.tmp 47) (.const (.bool false)))), .mk (some 49) none (.k (.mov (.tmp 48))), .mk (some 50) (some (49, true)) (.k (.mov (.tmp 4))), .mk (some 51) (some (49, true)) (.k (.mov (.tmp 7))), .mk (some 52) (some (49, true)) (.k (.idx 11 (.tmp 50) (.tmp 51))), .mk (some 53) (some (49, true)) (.k (.fld 6 (.tmp 52))), .mk (some 54) (some (49, true)) (.k (.load [.int .i64] false (.tmp 53))), .mk (some 55) (some (49, true)) (.k (.cmp .lss .i64 (.tmp 54) (.const (.int .i64 0)))), .mk (some 56) (some (49, true)) (.k (.mov (.tmp 55))), .mk (some 57) (some (56, false)) (.k (.mov (.tmp 4))), .mk (some 58) (some (56, false)) (.k (.mov (.tmp 7))), .mk (some 59) (some (56, false)) (.k (.idx 11 (.tmp 57) (.tmp 58))), .mk (some 60) (some (56, false)) (.k (.fld 6 (.tmp 59))), .mk (some 61) (some (56, false)) (.k (.load [.int .i64] false (.tmp 60))), .mk (some 62) (some (56, false)) (.k (.mov (.tmp 6))), .mk (some 63) (some (56, false)) (.k (.cmp .gtr .i64 (.tmp 61) (.tmp 62))), .mk (some 64) (some (49, true)) (.k (.pick (.tmp 56) (.const (.bool true)) (.tmp 63))), .mk (some 65) none (.k (.pick (.tmp 49) (.tmp 64) (.const (.bool false)))), .mk (some 8) none (.k (.mov (.tmp 65)))]) (.ref 1))) (.ref 2)
def T36n4 : XC := .seq (.seq (.ops [.mk (some 20) none (.k (.mov (.tmp 7))), .mk (some 21) none (.k (.mov (.tmp 4))), .mk (some 22) none (.k (.lenS (.tmp 21))), .mk (some 23) none (.k (.cmp .lss .i64 (.tmp 20) (.tmp 22))), .mk (some 24) none (.k (.mov (.tmp 23))), .mk (some 25) (some (24, true)) (.k (.mov (.tmp 0))), .mk (some 26) (some (24, true)) (.k (.mov (.tmp 6))), .mk (some 27) (some (24, true)) (.k (.idx 9 (.tmp 25) (.tmp 26))), .mk (some 28) (some (24, true)) (.k (.fld 0 (.tmp 27))), .mk (some 29) (some (24, true)) (.k (.load [.int .i64] false (.tmp 28))), .mk (some 30) (some (24, true)) (.k (.cmp .geq .i64 (.tmp 29) (.const (.int .i64 7)))), .mk (some 31) none (.k (.pick (.tmp 24) (.tmp 30) (.const (.bool false))))]) (.cond (.tmp 31) .skip (.exit 2))) (.ref 3)
def T36n5 : XC := .ops [.mk (some 18) none (.k (.mov (.tmp 6))), .mk (some 19) none (.k (.arith .add .i64 (.tmp 18) (.const (.int .i64 1)))), .mk (some 6) none (.k (.mov (.tmp 19)))]
def T36n6 : XC := .seq (.blk 1 (.seq (.ops [.mk (some 7) none (.k (.mov (.const (.int .i64 0))))]) (.blk 2 (.loop (.ref 4))))) (.ref 5)
def T36n7 : XC := .seq (.seq (.ops [.mk (some 14) none (.k (.mov (.tmp 6))), .mk (some 15) none (.k (.mov (.tmp 0))), .mk (some 16) none (.k (.lenS (.tmp 15))), .mk (some 17) none (.k (.cmp .lss .i64 (.tmp 14) (.tmp 16)))]) (.cond (.tmp 17) .skip (.exit 0))) (.ref 6)
def T36n8 : XC := .seq (.ops [.mk (some 2) none (.k (.mov (.const (.int .i64 0)))), .mk (some 3) none (.k (.mov (.const (.bool false))))]) .ret
def T36n9 : XC := .seq (.seq (.ops [.mk (some 6) none (.k (.mov (.const (.int .i64 0))))]) (.blk 0 (.loop (.ref 7)))) (.ref 8)
def T36n10 : XC := .seq (.ops [.mk (some 10) none (.k (.mov (.tmp 0))), .mk (some 11) none (.call 35 [.tmp 10]), .mk (some 9) none (.k (.mov (.tmp 11))), .mk (some 12) none (.k (.ext (.tmp 9) 0)), .mk (some 13) none (.k (.ext (.tmp 9) 1)), .mk (some 4) none (.k (.mov (.tmp 12))), .mk (some 5) none (.k (.mov (.tmp 13)))]) (.ref 9)
def T36 : Nat → XC
 | 0 => T36n0
 | 1 => T36n1
 | 2 => T36n2
 | 3 => T36n3
 | 4 => T36n4
 | 5 => T36n5
 | 6 => T36n6
 | 7 => T36n7
 | 8 => T36n8
 | 9 => T36n9
 | 10 => T36n10
 | _ => .skip
theorem t36n0 : T36 0 = T36n0 := rfl
theorem t36n1 : T36 1 = T36n1 := rfl
theorem t36n2 : T36 2 = T36n2 := rfl
theorem t36n3 : T36 3 = T36n3 := rfl
theorem t36n4 : T36 4 = T36n4 := rfl
theorem t36n5 : T36 5 = T36n5 := rfl
theorem t36n6 : T36 6 = T36n6 := rfl
theorem t36n7 : T36 7 = T36n7 := rfl
theorem t36n8 : T36 8 = T36n8 := rfl
theorem t36n9 : T36 9 = T36n9 := rfl
theorem t36n10 : T36 10 = T36n10 := rfl
def X36 : XC := .seq (.ops [.mk (some 2) none (.k (.mov (.const (.int .i64 0)))), .mk (some 3) none (.k (.mov (.const (.bool false))))]) (.ref 10)
abbrev K36 : List Nat := [0, 2, 3, 4, 6, 7, 8, 17, 31, 79]
theorem n36 : Try.f36.ntmps = 81 := by kernel_rfl
theorem r36 : resT Try.f36.results.toList = some [2, 3] := by kernel_rfl
theorem x36 : cmpF Try.prog Try.f36 = some (expand T36 12 X36) := by kernel_rfl
def T37n0 : XC := .ops [.mk (some 41) none (.k (.mov (.tmp 5))), .mk (some 42) none (.k (.mov (.tmp 8))), .mk (some 43) none (.k (.idx 11 (.tmp 41) (.tmp 42))), .mk (some 44) none (.k (.fld 3 (.tmp 43))), .mk (some 45) none (.k (.load [.int .i64] false (.tmp 44))), .mk (some 46) none (.k (.fld 0 (.tmp 7))), .mk (some 47) none (.k (.idxA 5 1 (.tmp 46) (.tmp 45))), .mk (some 48) none (.k (.load [.int .i64] false (.tmp 47))), .mk (some 49) none (.k (.arith .add .i64 (.tmp 48) (.const (.int .i64 1)))), .mk (some 50) none (.k (.fld 0 (.tmp 7))), .mk (some 51) none (.k (.idxA 5 1 (.tmp 50) (.tmp 45))), .mk none none (.k (.store 1 (.tmp 51) (.tmp 49)))]
def T37n1 : XC := .ops [.mk (some 52) none (.k (.mov (.tmp 5))), .mk (some 53) none (.k (.mov (.tmp 8))), .mk (some 54) none (.k (.idx 11 (.tmp 52) (.tmp 53))), .mk (some 55) none (.k (.fld 10 (.tmp 54))), .mk (some 56) none (.k (.load [.int .i64] false (.tmp 55))), .mk (some 57) none (.k (.fld 5 (.tmp 7))), .mk (some 58) none (.k (.idxA 9 1 (.tmp 57) (.tmp 56))), .mk (some 59) none (.k (.load [.int .i64] false (.tmp 58))), .mk (some 60) none (.k (.arith .add .i64 (.tmp 59) (.const (.int .i64 1)))), .mk (some 61) none (.k (.fld 5 (.tmp 7))), .mk (some 62) none (.k (.idxA 9 1 (.tmp 61) (.tmp 56))), .mk none none (.k (.store 1 (.tmp 62) (.tmp 60)))]
def T37n2 : XC := .seq (.ops [.mk (some 36) none (.k (.mov (.tmp 5))), .mk (some 37) none (.k (.mov (.tmp 8))), .mk (some 38) none (.k (.idx 11 (.tmp 36) (.tmp 37))), .mk (some 39) none (.k (.fld 9 (.tmp 38))), .mk (some 40) none (.k (.load [.bool] false (.tmp 39)))]) (.cond (.tmp 40) (.ref 0) (.ref 1))
def T37n3 : XC := .ops [.mk (some 19) none (.k (.mov (.tmp 8))), .mk (some 20) none (.k (.arith .add .i64 (.tmp 19) (.const (.int .i64 1)))), .mk (some 8) none (.k (.mov (.tmp 20)))]
def T37n4 : XC := .seq (.blk 1 (.seq (.seq (.ops [.mk (some 21) none (.k (.mov (.tmp 5))), .mk (some 22) none (.k (.mov (.tmp 8))), .mk (some 23) none (.k (.idx 11 (.tmp 21) (.tmp 22))), .mk (some 24) none (.k (.fld 0 (.tmp 23))), .mk (some 25) none (.k (.load [.int .i64] false (.tmp 24))), .mk (some 26) none (.k (.mov (.tmp 1))), .mk (some 27) none (.k (.cmp .neq .i64 (.tmp 25) (.tmp 26))), .mk (some 28) none (.k (.mov (.tmp 27))), .mk (some 29) (some (28, false)) (.k (.mov (.tmp 5))), .mk (some 30) (some (28, false)) (.k (.mov (.tmp 8))), .mk (some 31) (some (28, false)) (.k (.idx 11 (.tmp 29) (.tmp 30))), .mk (some 32) (some (28, false)) (.k (.fld 6 (.tmp 31))), .mk (some 33) (some (28, false)) (.k (.load [.int .i64] false (.tmp 32))), .mk (some 34) (some (28, false)) (.k (.cmp .lss .i64 (.tmp 33) (.const (.int .i64 0)))), .mk (some 35) none (.k (.pick (.tmp 28) (.const (.bool true)) (.tmp 34)))]) (.cond (.tmp 35) (.exit 1) .skip)) (.ref 2))) (.ref 3)
def T37n5 : XC := .seq (.seq (.ops [.mk (some 15) none (.k (.mov (.tmp 8))), .mk (some 16) none (.k (.mov (.tmp 5))), .mk (some 17) none (.k (.lenS (.tmp 16))), .mk (some 18) none (.k (.cmp .lss .i64 (.tmp 15) (.tmp 17)))]) (.cond (.tmp 18) .skip (.exit 0))) (.ref 4)
def T37n6 : XC := .seq (.ops [.mk (some 63) none (.k (.load [.int .i64, .int .i64, .int .i64, .int .i64, .int .i64, .int .i64, .int .i64, .int .i64, .int .i64, .int .i64, .int .i64, .int .i64, .int .i64, .int .i64, .int .i64] true (.tmp 7))), .mk none none (.k (.store 15 (.tmp 4) (.tmp 63)))]) .ret
def T37n7 : XC := .seq (.seq (.ops [.mk (some 8) none (.k (.mov (.const (.int .i64 0))))]) (.blk 0 (.loop (.ref 5)))) (.ref 6)
def T37n8 : XC := .seq (.ops [.mk (some 14) none (.k (.build [.int .i64 0, .int .i64 0, .int .i64 0, .int .i64 0, .int .i64 0, .int .i64 0, .int .i64 0, .int .i64 0, .int .i64 0, .int .i64 0, .int .i64 0, .int .i64 0, .int .i64 0, .int .i64 0, .int .i64 0] [])), .mk (some 7) none (.k (.alloc 79 [.int .i64 0, .int .i64 0, .int .i64 0, .int .i64 0, .int .i64 0, .int .i64 0, .int .i64 0, .int .i64 0, .int .i64 0, .int .i64 0, .int .i64 0, .int .i64 0, .int .i64 0, .int .i64 0, .int .i64 0])), .mk none none (.k (.store 15 (.tmp 7) (.tmp 14)))]) (.ref 7)
def T37n9 : XC := .seq (.ops [.mk (some 10) none (.k (.mov (.tmp 0))), .mk (some 11) none (.call 35 [.tmp 10]), .mk (some 9) none (.k (.mov (.tmp 11))), .mk (some 12) none (.k (.ext (.tmp 9) 0)), .mk (some 13) none (.k (.ext (.tmp 9) 1)), .mk (some 5) none (.k (.mov (.tmp 12))), .mk (some 6) none (.k (.mov (.tmp 13)))]) (.ref 8)
def T37 : Nat → XC
 | 0 => T37n0
 | 1 => T37n1
 | 2 => T37n2
 | 3 => T37n3
 | 4 => T37n4
 | 5 => T37n5
 | 6 => T37n6
 | 7 => T37n7
 | 8 => T37n8
 | 9 => T37n9
 | _ => .skip
theorem t37n0 : T37 0 = T37n0 := rfl
theorem t37n1 : T37 1 = T37n1 := rfl
theorem t37n2 : T37 2 = T37n2 := rfl
theorem t37n3 : T37 3 = T37n3 := rfl
theorem t37n4 : T37 4 = T37n4 := rfl
theorem t37n5 : T37 5 = T37n5 := rfl
theorem t37n6 : T37 6 = T37n6 := rfl
theorem t37n7 : T37 7 = T37n7 := rfl
theorem t37n8 : T37 8 = T37n8 := rfl
theorem t37n9 : T37 9 = T37n9 := rfl
def X37 : XC := .seq (.ops [.mk (some 4) none (.k (.alloc 79 [.int .i64 0, .int .i64 0, .int .i64 0, .int .i64 0, .int .i64 0, .int .i64 0, .int .i64 0, .int .i64 0, .int .i64 0, .int .i64 0, .int .i64 0, .int .i64 0, .int .i64 0, .int .i64 0, .int .i64 0]))]) (.ref 9)
abbrev K37 : List Nat := [0, 1, 4, 5, 7, 8, 18, 35, 40]
theorem n37 : Try.f37.ntmps = 64 := by kernel_rfl
theorem r37 : rvOf Try.prog Try.f37.results.toList = some [RV.cell 4 15 true] := by kernel_rfl
theorem x37 : cmpF Try.prog Try.f37 = some (expand T37 11 X37) := by kernel_rfl
def T38n0 : XC := .seq (.ops [.mk (some 4) none (.k (.mov (.const (.bool false))))]) .ret
def T38n1 : XC := .seq (.ops [.mk (some 4) none (.k (.mov (.const (.bool false))))]) .ret
def T38n2 : XC := .seq (.ops [.mk (some 27) none (.k (.fld 0 (.tmp 6))), .mk (some 28) none (.k (.load [.int .i64] false (.tmp 27))), .mk (some 29) none (.k (.fld 0 (.tmp 7))), .mk (some 30) none (.k (.load [.int .i64] false (.tmp 29))), .mk (some 31) none (.k (.cmp .neq .i64 (.tmp 28) (.tmp 30))), .mk (some 32) none (.k (.mov (.tmp 31))), .mk (some 33) (some (32, false)) (.k (.fld 1 (.tmp 6))), .mk (some 34) (some (32, false)) (.k (.load [.int .i64] false (.tmp 33))), .mk (some 35) (some (32, false)) (.k (.fld 1 (.tmp 7))), .mk (some 36) (some (32, false)) (.k (.load [.int .i64] false (.tmp 35))), .mk (some 37) (some (32, false)) (.k (.cmp .neq .i64 (.tmp 34) (.tmp 36))), .mk (some 38) none (.k (.pick (.tmp 32) (.const (.bool true)) (.tmp 37))), .mk (some 39) none (.k (.mov (.tmp 38))), .mk (some 40) (some (39, false)) (.k (.fld 2 (.tmp 6))), .mk (some 41) (some (39, false)) (.k (.load [.int .i64] false (.tmp 40))), .mk (some 42) (some (39, false)) (.k (.fld 2 (.tmp 7))), .mk (some 43) (some (39, false)) (.k (.load [.int .i64] false (.tmp 42))), .mk (some 44) (some (39, false)) (.k (.cmp .neq .i64 (.tmp 41) (.tmp 43))), .mk (some 45) none (.k (.pick (.tmp 39) (.const (.bool true)) (.tmp 44))), .mk (some 46) none (.k (.mov (.tmp 45))), .mk (some 47) (some (46, false)) (.k (.fld 3 (.tmp 6))), .mk (some 48) (some (46, false)) (.k (.load [.int .i64] false (.tmp 47))), .mk (some 49) (some (46, false)) (.k (.fld 3 (.tmp 7))), .mk (some 50) (some (46, false)) (.k (.load [.int .i64] false (.tmp 49))), .mk (some 51) (some (46, false)) (.k (.cmp .neq .i64 (.tmp 48) (.tmp 50))), .mk (some 52) none (.k (.pick (.tmp 46) (.const (.bool true)) (.tmp 51))), .mk (some 53) none (.k (.mov (.tmp 52))), .mk (some 54) (some (53, false)) (.k (.fld 4 (.tmp 6))), .mk (some 55) (some (53, false)) (.k (.load [.int .i64] false (.tmp 54))), .mk (some 56) (some (53, false)) (.k (.fld 4 (.tmp 7))), .mk (some 57) (some (53, false)) (.k (.load [.int .i64] false (.tmp 56))), .mk (some 58) (some (53, false)) (.k (.cmp .neq .i64 (.tmp 55) (.tmp 57))), .mk (some 59) none (.k (.pick (.tmp 53) (.const (.bool true)) (.tmp 58))), .mk (some 60) none (.k (.mov (.tmp 59))), .mk (some 61) (some (60, false)) (.k (.fld 5 (.tmp 6))), .mk (some 62) (some (60, false)) (.k (.load [.int .i64] false (.tmp 61))), .mk (some 63) (some (60, false)) (.k (.fld 5 (.tmp 7))), .mk (some 64) (some (60, false)) (.k (.load [.int .i64] false (.tmp 63))), .mk (some 65) (some (60, false)) (.k (.cmp .neq .i64 (.tmp 62) (.tmp 64))), .mk (some 66) none (.k (.pick (.tmp 60) (.const (.bool true)) (.tmp 65))), .mk (some 67) none (.k (.mov (.tmp 66))), .mk (some 68) (some (67, false)) (.k (.fld 6 (.tmp 6))), .mk (some 69) (some (67, false)) (.k (.load [.int .i64] false (.tmp 68))), .mk (some 70) (some (67, false)) (.k (.fld 6 (.tmp 7))), .mk (some 71) (some (67, false)) (.k (.load [.int .i64] false (.tmp 70))), .mk (some 72) (some (67, false)) (.k (.cmp .neq .i64 (.tmp 69) (.tmp 71))), .mk (some 73) none (.k (.pick (.tmp 67) (.const (.bool true)) (.tmp 72))), .mk (some 74) none (.k (.mov (.tmp 73))), .mk (some 75) (some (74, false)) (.k (.fld 9 (.tmp 6))), .mk (some 76) (some (74, false)) (.k (.load [.bool] false (.tmp 75))), .mk (some 77) (some (74, false)) (.k (.fld 9 (.tmp 7))), .mk (some 78) (some (74, false)) (.k (.load [.bool] false (.tmp 77))), .mk (some 79) (some (74, false)) (.k (.eqb true (.tmp 76) (.tmp 78))), .mk (some 80) none (.k (.pick (.tmp 74) (.const (.bool true)) (.tmp 79))), .mk (some 81) none (.k (.mov (.tmp 80))), .mk (some 82) (some (81, false)) (.k (.fld 10 (.tmp 6))), .mk (some 83) (some (81, false)) (.k (.load [.int .i64] false (.tmp 82))), .mk (some 84) (some (81, false)) (.k (.fld 10 (.tmp 7))), .mk (some 85) (some (81, false)) (.k (.load [.int .i64] false (.tmp 84))), .mk (some 86) (some (81, false)) (.k (.cmp .neq .i64 (.tmp 83) (.tmp 85))), .mk (some 87) none (.k (.pick (.tmp 81) (.const (.bool true)) (.tmp 86))), .mk (some 88) none (.k (.mov (.tmp 87))), .mk (some 89) (some (88, false)) (.k (.fld 7 (.tmp 6))), .mk (some 90) (some (88, false)) (.k (.load [.slc] false (.tmp 89))), .mk (some 91) (some (88, false)) (.k (.fld 7 (.tmp 7))), .mk (some 92) (some (88, false)) (.k (.load [.slc] false (.tmp 91))), .mk (some 93) (some (88, false)) (.call 60 [.tmp 90, .tmp 92]), .mk (some 94) (some (88, false)) (.k (.not (.tmp 93))), .mk (some 95) none (.k (.pick (.tmp 88) (.const (.bool true)) (.tmp 94))), .mk (some 96) none (.k (.mov (.tmp 95))), .mk (some 97) (some (96, false)) (.k (.fld 8 (.tmp 6))), .mk (some 98) (some (96, false)) (.k (.load [.slc] false (.tmp 97))), .mk (some 99) (some (96, false)) (.k (.fld 8 (.tmp 7))), .mk (some 100) (some (96, false)) (.k (.load [.slc] false (.tmp 99))), .mk (some 101) (some (96, false)) (.call 60 [.tmp 98, .tmp 100]), .mk (some 102) (some (96, false)) (.k (.not (.tmp 101))), .mk (some 103) none (.k (.pick (.tmp 96) (.const (.bool true)) (.tmp 102)))]) (.cond (.tmp 103) (.ref 1) .skip)
def T38n3 : XC := .seq (.ops [.mk (some 23) none (.k (.mov (.tmp 1))), .mk (some 24) none (.k (.mov (.tmp 5))), .mk (some 25) none (.k (.idx 11 (.tmp 23) (.tmp 24))), .mk (some 26) none (.k (.load [.int .i64, .int .i64, .int .i64, .int .i64, .int .i64, .int .i64, .int .i64, .slc, .slc, .bool, .int .i64] true (.tmp 25))), .mk (some 7) none (.k (.alloc 90 [.int .i64 0, .int .i64 0, .int .i64 0, .int .i64 0, .int .i64 0, .int .i64 0, .int .i64 0, .slice none 0 0, .slice none 0 0, .bool false, .int .i64 0])), .mk none none (.k (.store 11 (.tmp 7) (.tmp 26)))]) (.ref 2)
def T38n4 : XC := .ops [.mk (some 17) none (.k (.mov (.tmp 5))), .mk (some 18) none (.k (.arith .add .i64 (.tmp 17) (.const (.int .i64 1)))), .mk (some 5) none (.k (.mov (.tmp 18)))]
def T38n5 : XC := .seq (.blk 1 (.seq (.ops [.mk (some 19) none (.k (.mov (.tmp 0))), .mk (some 20) none (.k (.mov (.tmp 5))), .mk (some 21) none (.k (.idx 11 (.tmp 19) (.tmp 20))), .mk (some 22) none (.k (.load [.int .i64, .int .i64, .int .i64, .int .i64, .int .i64, .int .i64, .int .i64, .slc, .slc, .bool, .int .i64] true (.tmp 21))), .mk (some 6) none (.k (.alloc 90 [.int .i64 0, .int .i64 0, .int .i64 0, .int .i64 0, .int .i64 0, .int .i64 0, .int .i64 0, .slice none 0 0, .slice none 0 0, .bool false, .int .i64 0])), .mk none none (.k (.store 11 (.tmp 6) (.tmp 22)))]) (.ref 3))) (.ref 4)
def T38n6 : XC := .seq (.seq (.ops [.mk (some 13) none (.k (.mov (.tmp 5))), .mk (some 14) none (.k (.mov (.tmp 0))), .mk (some 15) none (.k (.lenS (.tmp 14))), .mk (some 16) none (.k (.cmp .lss .i64 (.tmp 13) (.tmp 15)))]) (.cond (.tmp 16) .skip (.exit 0))) (.ref 5)
def T38n7 : XC := .seq (.ops [.mk (some 4) none (.k (.mov (.const (.bool true))))]) .ret
def T38n8 : XC := .seq (.seq (.ops [.mk (some 5) none (.k (.mov (.const (.int .i64 0))))]) (.blk 0 (.loop (.ref 6)))) (.ref 7)
def T38n9 : XC := .seq (.seq (.ops [.mk (some 8) none (.k (.mov (.tmp 0))), .mk (some 9) none (.k (.lenS (.tmp 8))), .mk (some 10) none (.k (.mov (.tmp 1))), .mk (some 11) none (.k (.lenS (.tmp 10))), .mk (some 12) none (.k (.cmp .neq .i64 (.tmp 9) (.tmp 11)))]) (.cond (.tmp 12) (.ref 0) .skip)) (.ref 8)
def T38 : Nat → XC
 | 0 => T38n0
 | 1 => T38n1
 | 2 => T38n2
 | 3 => T38n3
 | 4 => T38n4
 | 5 => T38n5
 | 6 => T38n6
 | 7 => T38n7
 | 8 => T38n8
 | 9 => T38n9
 | _ => .skip
theorem t38n0 : T38 0 = T38n0 := rfl
theorem t38n1 : T38 1 = T38n1 := rfl
theorem t38n2 : T38 2 = T38n2 := rfl
theorem t38n3 : T38 3 = T38n3 := rfl
theorem t38n4 : T38 4 = T38n4 := rfl
theorem t38n5 : T38 5 = T38n5 := rfl
theorem t38n6 : T38 6 = T38n6 := rfl
theorem t38n7 : T38 7 = T38n7 := rfl
theorem t38n8 : T38 8 = T38n8 := rfl
theorem t38n9 : T38 9 = T38n9 := rfl
def X38 : XC := .seq (.ops [.mk (some 4) none (.k (.mov (.const (.bool false))))]) (.ref 9)
abbrev K38 : List Nat := [0, 1, 4, 5, 6, 7, 12, 16, 103]
theorem n38 : Try.f38.ntmps = 104 := by kernel_rfl
theorem r38 : resT Try.f38.results.toList = some [4] := by kernel_rfl
theorem x38 : cmpF Try.prog Try.f38 = some (expand T38 11 X38) := by kernel_rfl
def T39n0 : XC := .seq (.ops [.mk (some 4) none (.k (.mov (.const (.bool false))))]) .ret
def T39n1 : XC := .seq (.ops [.mk (some 4) none (.k (.mov (.const (.bool false))))]) .ret
def T39n2 : XC := .ops [.mk (some 15) none (.k (.mov (.tmp 5))), .mk (some 16) none (.k (.arith .add .i64 (.tmp 15) (.const (.int .i64 1)))), .mk (some 5) none (.k (.mov (.tmp 16)))]
def T39n3 : XC := .seq (.blk 1 (.seq (.ops [.mk (some 17) none (.k (.mov (.tmp 0))), .mk (some 18) none (.k (.mov (.tmp 5))), .mk (some 19) none (.k (.idx 9 (.tmp 17) (.tmp 18))), .mk (some 20) none (.k (.load [.int .i64, .int .i64, .int .i64, .int .i64, .int .i64, .int .i64, .int .i64, .int .u64, .int .i64] true (.tmp 19))), .mk (some 21) none (.k (.mov (.tmp 1))), .mk (some 22) none (.k (.mov (.tmp 5))), .mk (some 23) none (.k (.idx 9 (.tmp 21) (.tmp 22))), .mk (some 24) none (.k (.load [.int .i64, .int .i64, .int .i64, .int .i64, .int .i64, .int .i64, .int .i64, .int .u64, .int .i64] true (.tmp 23))), .mk (some 25) none (.k (.eqa true [.int .i64, .int .i64, .int .i64, .int .i64, .int .i64, .int .i64, .int .i64, .int .u64, .int .i64] (.tmp 20) (.tmp 24)))]) (.cond (.tmp 25) (.ref 1) .skip))) (.ref 2)
def T39n4 : XC := .seq (.seq (.ops [.mk (some 11) none (.k (.mov (.tmp 5))), .mk (some 12) none (.k (.mov (.tmp 0))), .mk (some 13) none (.k (.lenS (.tmp 12))), .mk (some 14) none (.k (.cmp .lss .i64 (.tmp 11) (.tmp 13)))]) (.cond (.tmp 14) .skip (.exit 0))) (.ref 3)
def T39n5 : XC := .seq (.ops [.mk (some 4) none (.k (.mov (.const (.bool true))))]) .ret
def T39n6 : XC := .seq (.seq (.ops [.mk (some 5) none (.k (.mov (.const (.int .i64 0))))]) (.blk 0 (.loop (.ref 4)))) (.ref 5)
def T39n7 : XC := .seq (.seq (.ops [.mk (some 6) none (.k (.mov (.tmp 0))), .mk (some 7) none (.k (.lenS (.tmp 6))), .mk (some 8) none (.k (.mov (.tmp 1))), .mk (some 9) none (.k (.lenS (.tmp 8))), .mk (some 10) none (.k (.cmp .neq .i64 (.tmp 7) (.tmp 9)))]) (.cond (.tmp 10) (.ref 0) .skip)) (.ref 6)
def T39 : Nat → XC
 | 0 => T39n0
 | 1 => T39n1
 | 2 => T39n2
 | 3 => T39n3
 | 4 => T39n4
 | 5 => T39n5
 | 6 => T39n6
 | 7 => T39n7
 | _ => .skip
theorem t39n0 : T39 0 = T39n0 := rfl
theorem t39n1 : T39 1 = T39n1 := rfl
theorem t39n2 : T39 2 = T39n2 := rfl
theorem t39n3 : T39 3 = T39n3 := rfl
theorem t39n4 : T39 4 = T39n4 := rfl
theorem t39n5 : T39 5 = T39n5 := rfl
theorem t39n6 : T39 6 = T39n6 := rfl
theorem t39n7 : T39 7 = T39n7 := rfl
def X39 : XC := .seq (.ops [.mk (some 4) none (.k (.mov (.const (.bool false))))]) (.ref 7)
abbrev K39 : List Nat := [0, 1, 4, 5, 10, 14, 25]
theorem n39 : Try.f39.ntmps = 26 := by kernel_rfl
theorem r39 : resT Try.f39.results.toList = some [4] := by kernel_rfl
theorem x39 : cmpF Try.prog Try.f39 = some (expand T39 9 X39) := by kernel_rfl
def T60n0 : XC := .seq (.ops [.mk (some 4) none (.k (.mov (.const (.bool false))))]) .ret
def T60n1 : XC := .seq (.ops [.mk (some 4) none (.k (.mov (.const (.bool false))))]) .ret
def T60n2 : XC := .ops [.mk (some 15) none (.k (.mov (.tmp 5))), .mk (some 16) none (.k (.arith .add .i64 (.tmp 15) (.const (.int .i64 1)))), .mk (some 5) none (.k (.mov (.tmp 16)))]
def T60n3 : XC := .seq (.blk 1 (.seq (.ops [.mk (some 17) none (.k (.mov (.tmp 0))), .mk (some 18) none (.k (.mov (.tmp 5))), .mk (some 19) none (.k (.idx 2 (.tmp 17) (.tmp 18))), .mk (some 20) none (.k (.load [.int .i64, .int .u64] true (.tmp 19))), .mk (some 21) none (.k (.mov (.tmp 1))), .mk (some 22) none (.k (.mov (.tmp 5))), .mk (some 23) none (.k (.idx 2 (.tmp 21) (.tmp 22))), .mk (some 24) none (.k (.load [.int .i64, .int .u64] true (.tmp 23))), .mk (some 25) none (.k (.eqa true [.int .i64, .int .u64] (.tmp 20) (.tmp 24)))]) (.cond (.tmp 25) (.ref 1) .skip))) (.ref 2)
def T60n4 : XC := .seq (.seq (.ops [.mk (some 11) none (.k (.mov (.tmp 5))), .mk (some 12) none (.k (.mov (.tmp 0))), .mk (some 13) none (.k (.lenS (.tmp 12))), .mk (some 14) none (.k (.cmp .lss .i64 (.tmp 11) (.tmp 13)))]) (.cond (.tmp 14) .skip (.exit 0))) (.ref 3)
def T60n5 : XC := .seq (.ops [.mk (some 4) none (.k (.mov (.const (.bool true))))]) .ret
def T60n6 : XC := .seq (.seq (.ops [.mk (some 5) none (.k (.mov (.const (.int .i64 0))))]) (.blk 0 (.loop (.ref 4)))) (.ref 5)
def T60n7 : XC := .seq (.seq (.ops [.mk (some 6) none (.k (.mov (.tmp 0))), .mk (some 7) none (.k (.lenS (.tmp 6))), .mk (some 8) none (.k (.mov (.tmp 1))), .mk (some 9) none (.k (.lenS (.tmp 8))), .mk (some 10) none (.k (.cmp .neq .i64 (.tmp 7) (.tmp 9)))]) (.cond (.tmp 10) (.ref 0) .skip)) (.ref 6)
def T60 : Nat → XC
 | 0 => T60n0
 | 1 => T60n1
 | 2 => T60n2
 | 3 => T60n3
 | 4 => T60n4
 | 5 => T60n5
 | 6 => T60n6
 | 7 => T60n7
 | _ => .skip
theorem t60n0 : T60 0 = T60n0 := rfl
theorem t60n1 : T60 1 = T60n1 := rfl
theorem t60n2 : T60 2 = T60n2 := rfl
theorem t60n3 : T60 3 = T60n3 := rfl
theorem t60n4 : T60 4 = T60n4 := rfl
theorem t60n5 : T60 5 = T60n5 := rfl
theorem t60n6 : T60 6 = T60n6 := rfl
theorem t60n7 : T60 7 = T60n7 := rfl
def X60 : XC := .seq (.ops [.mk (some 4) none (.k (.mov (.const (.bool false))))]) (.ref 7)
abbrev K60 : List Nat := [0, 1, 4, 5, 10, 14, 25]
theorem n60 : Try.f60.ntmps = 26 := by kernel_rfl
theorem r60 : resT Try.f60.results.toList = some [4] := by kernel_rfl
theorem x60 : cmpF Try.prog Try.f60 = some (expand T60 9 X60) := by kernel_rfl
def T9n0 : XC := .seq (.ops [.mk (some 4) none (.k (.mov (.const (.bool true))))]) .ret
def T9n1 : XC := .seq (.ops [.mk (some 49) none (.k (.mov (.tmp 7))), .mk (some 50) none (.k (.cmp .eql .i64 (.tmp 49) (.const (.int .i64 120)))), .mk (some 51) none (.k (.mov (.tmp 50))), .mk (some 52) (some (51, true)) (.k (.mov (.tmp 10))), .mk (some 53) (some (51, true)) (.k (.cmp .eql .i64 (.tmp 52) (.const (.int .i64 120)))), .mk (some 54) none (.k (.pick (.tmp 51) (.tmp 53) (.const (.bool false)))), .mk (some 55) none (.k (.mov (.tmp 54))), .mk (some 56) (some (55, true)) (.k (.mov (.tmp 12))), .mk (some 57) (some (55, true)) (.k (.cmp .eql .i64 (.tmp 56) (.const (.int .i64 120)))), .mk (some 58) none (.k (.pick (.tmp 55) (.tmp 57) (.const (.bool false)))), .mk (some 59) none (.k (.mov (.tmp 58))), .mk (some 60) (some (59, true)) (.k (.mov (.tmp 6))), .mk (some 61) (some (59, true)) (.k (.lenS (.tmp 60))), .mk (some 62) (some (59, true)) (.k (.cmp .eql .i64 (.tmp 61) (.const (.int .i64 0)))), .mk (some 63) none (.k (.pick (.tmp 59) (.tmp 62) (.const (.bool false)))), .mk (some 64) none (.k (.mov (.tmp 63))), .mk (some 65) (some (64, true)) (.k (.mov (.tmp 8))), .mk (some 66) (some (64, true)) (.k (.cmp .eql .i64 (.tmp 65) (.const (.int .i64 0)))), .mk (some 67) none (.k (.pick (.tmp 64) (.tmp 66) (.const (.bool false)))), .mk (some 68) none (.k (.mov (.tmp 67))), .mk (some 69) (some (68, true)) (.k (.mov (.tmp 9))), .mk (some 70) (some (68, true)) (.k (.not (.tmp 69))), .mk (some 71) none (.k (.pick (.tmp 68) (.tmp 70) (.const (.bool false)))), .mk (some 72) none (.k (.mov (.tmp 71))), .mk (some 73) (some (72, true)) (.k (.load [.int .i64, .int .i64, .int .i64, .int .i64, .int .i64, .int .i64, .int .i64, .int .i64, .int .i64, .int .i64, .int .i64, .int .i64, .int .i64, .int .i64, .int .i64] true (.tmp 11))), .mk (some 74) (some (72, true)) (.k (.build [.int .i64 0, .int .i64 0, .int .i64 0, .int .i64 0, .int .i64 0, .int .i64 0, .int .i64 0, .int .i64 0, .int .i64 0, .int .i64 0, .int .i64 0, .int .i64 0, .int .i64 0, .int .i64 0, .int .i64 0] [])), .mk (some 75) (some (72, true)) (.k (.eqa false [.int .i64, .int .i64, .int .i64, .int .i64, .int .i64, .int .i64, .int .i64, .int .i64, .int .i64, .int .i64, .int .i64, .int .i64, .int .i64, .int .i64, .int .i64] (.tmp 73) (.tmp 74))), .mk (some 76) none (.k (.pick (.tmp 72) (.tmp 75) (.const (.bool false)))), .mk (some 4) none (.k (.mov (.tmp 76)))]) .ret
def T9n2 : XC := .seq (.ops [.mk (some 4) none (.k (.mov (.const (.bool false))))]) .ret
def T9n3 : XC := .ops [.mk (some 135) none (.k (.mov (.tmp 20))), .mk (some 136) none (.k (.arith .add .i64 (.tmp 135) (.const (.int .i64 1)))), .mk (some 20) none (.k (.mov (.tmp 136)))]
def T9n4 : XC := .seq (.blk 3 (.ops [.mk (some 137) none (.k (.mov (.tmp 6))), .mk (some 138) none (.k (.mov (.tmp 19))), .mk (some 139) none (.k (.idx 11 (.tmp 137) (.tmp 138))), .mk (some 140) none (.k (.fld 7 (.tmp 139))), .mk (some 141) none (.k (.load [.slc] false (.tmp 140))), .mk (some 142) none (.k (.mov (.tmp 20))), .mk (some 143) none (.k (.build [.int .i64 0, .int .u64 0] [(0, 1, .const (.int .i64 (-7)))])), .mk (some 144) none (.k (.idx 2 (.tmp 141) (.tmp 142))), .mk none none (.k (.store 2 (.tmp 144) (.tmp 143)))])) (.ref 3)
def T9n5 : XC := .seq (.seq (.ops [.mk (some 127) none (.k (.mov (.tmp 20))), .mk (some 128) none (.k (.mov (.tmp 6))), .mk (some 129) none (.k (.mov (.tmp 19))), .mk (some 130) none (.k (.idx 11 (.tmp 128) (.tmp 129))), .mk (some 131) none (.k (.fld 7 (.tmp 130))), .mk (some 132) none (.k (.load [.slc] false (.tmp 131))), .mk (some 133) none (.k (.lenS (.tmp 132))), .mk (some 134) none (.k (.cmp .lss .i64 (.tmp 127) (.tmp 133)))]) (.cond (.tmp 134) .skip (.exit 2))) (.ref 4)
def T9n6 : XC := .ops [.mk (some 153) none (.k (.mov (.tmp 21))), .mk (some 154) none (.k (.arith .add .i64 (.tmp 153) (.const (.int .i64 1)))), .mk (some 21) none (.k (.mov (.tmp 154)))]
def T9n7 : XC := .seq (.blk 5 (.ops [.mk (some 155) none (.k (.mov (.tmp 6))), .mk (some 156) none (.k (.mov (.tmp 19))), .mk (some 157) none (.k (.idx 11 (.tmp 155) (.tmp 156))), .mk (some 158) none (.k (.fld 8 (.tmp 157))), .mk (some 159) none (.k (.load [.slc] false (.tmp 158))), .mk (some 160) none (.k (.mov (.tmp 21))), .mk (some 161) none (.k (.build [.int .i64 0, .int .u64 0] [(0, 1, .const (.int .i64 (-7)))])), .mk (some 162) none (.k (.idx 2 (.tmp 159) (.tmp 160))), .mk none none (.k (.store 2 (.tmp 162) (.tmp 161)))])) (.ref 6)
def T9n8 : XC := .seq (.seq (.ops [.mk (some 145) none (.k (.mov (.tmp 21))), .mk (some 146) none (.k (.mov (.tmp 6))), .mk (some 147) none (.k (.mov (.tmp 19))), .mk (some 148) none (.k (.idx 11 (.tmp 146) (.tmp 147))), .mk (some 149) none (.k (.fld 8 (.tmp 148))), .mk (some 150) none (.k (.load [.slc] false (.tmp 149))), .mk (some 151) none (.k (.lenS (.tmp 150))), .mk (some 152) none (.k (.cmp .lss .i64 (.tmp 145) (.tmp 151)))]) (.cond (.tmp 152) .skip (.exit 4))) (.ref 7)
def T9n9 : XC := .seq (.ops [.mk (some 21) none (.k (.mov (.const (.int .i64 0))))]) (.blk 4 (.loop (.ref 8)))
def T9n10 : XC := .ops [.mk (some 125) none (.k (.mov (.tmp 19))), .mk (some 126) none (.k (.arith .add .i64 (.tmp 125) (.const (.int .i64 1)))), .mk (some 19) none (.k (.mov (.tmp 126)))]
def T9n11 : XC := .seq (.blk 1 (.seq (.seq (.ops [.mk (some 20) none (.k (.mov (.const (.int .i64 0))))]) (.blk 2 (.loop (.ref 5)))) (.ref 9))) (.ref 10)
def T9n12 : XC := .seq (.seq (.ops [.mk (some 121) none (.k (.mov (.tmp 19))), .mk (some 122) none (.k (.mov (.tmp 6))), .mk (some 123) none (.k (.lenS (.tmp 122))), .mk (some 124) none (.k (.cmp .lss .i64 (.tmp 121) (.tmp 123)))]) (.cond (.tmp 124) .skip (.exit 0))) (.ref 11)
def T9n13 : XC := .seq (.ops [.mk (some 168) none (.k (.mov (.tmp 6))), .mk (some 169) none (.k (.mov (.tmp 14))), .mk (some 170) none (.call 38 [.tmp 168, .tmp 169]), .mk (some 171) none (.k (.mov (.tmp 170))), .mk (some 172) (some (171, true)) (.k (.mov (.tmp 5))), .mk (some 173) (some (171, true)) (.k (.mov (.tmp 0))), .mk (some 174) (some (171, true)) (.call 39 [.tmp 172, .tmp 173]), .mk (some 175) none (.k (.pick (.tmp 171) (.tmp 174) (.const (.bool false)))), .mk (some 4) none (.k (.mov (.tmp 175)))]) .ret
def T9n14 : XC := .seq (.ops [.mk (some 164) none (.k (.mov (.tmp 5))), .mk (some 165) none (.call 31 [.tmp 164]), .mk (some 163) none (.k (.mov (.tmp 165))), .mk (some 166) none (.k (.ext (.tmp 163) 0)), .mk (some 167) none (.k (.ext (.tmp 163) 1)), .mk (some 6) none (.k (.mov (.tmp 166)))]) (.ref 13)
def T9n15 : XC := .seq (.seq (.ops [.mk (some 19) none (.k (.mov (.const (.int .i64 0))))]) (.blk 0 (.loop (.ref 12)))) (.ref 14)
def T9n16 : XC := .seq (.seq (.ops [.mk (some 90) none (.k (.mov (.tmp 7))), .mk (some 91) none (.k (.cmp .neq .i64 (.tmp 90) (.const (.int .i64 0)))), .mk (some 92) none (.k (.mov (.tmp 91))), .mk (some 93) (some (92, false)) (.k (.mov (.tmp 10))), .mk (some 94) (some (92, false)) (.k (.cmp .neq .i64 (.tmp 93) (.const (.int .i64 0)))), .mk (some 95) none (.k (.pick (.tmp 92) (.const (.bool true)) (.tmp 94))), .mk (some 96) none (.k (.mov (.tmp 95))), .mk (some 97) (some (96, false)) (.k (.mov (.tmp 12))), .mk (some 98) (some (96, false)) (.k (.cmp .neq .i64 (.tmp 97) (.const (.int .i64 0)))), .mk (some 99) none (.k (.pick (.tmp 96) (.const (.bool true)) (.tmp 98))), .mk (some 100) none (.k (.mov (.tmp 99))), .mk (some 101) (some (100, false)) (.k (.mov (.tmp 6))), .mk (some 102) (some (100, false)) (.k (.mov (.tmp 14))), .mk (some 103) (some (100, false)) (.call 38 [.tmp 101, .tmp 102]), .mk (some 104) (some (100, false)) (.k (.not (.tmp 103))), .mk (some 105) none (.k (.pick (.tmp 100) (.const (.bool true)) (.tmp 104))), .mk (some 106) none (.k (.mov (.tmp 105))), .mk (some 107) (some (106, false)) (.k (.mov (.tmp 8))), .mk (some 108) (some (106, false)) (.k (.mov (.tmp 16))), .mk (some 109) (some (106, false)) (.k (.cmp .neq .i64 (.tmp 107) (.tmp 108))), .mk (some 110) none (.k (.pick (.tmp 106) (.const (.bool true)) (.tmp 109))), .mk (some 111) none (.k (.mov (.tmp 110))), .mk (some 112) (some (111, false)) (.k (.mov (.tmp 9))), .mk (some 113) (some (111, false)) (.k (.mov (.tmp 17))), .mk (some 114) (some (111, false)) (.k (.eqb true (.tmp 112) (.tmp 113))), .mk (some 115) none (.k (.pick (.tmp 111) (.const (.bool true)) (.tmp 114))), .mk (some 116) none (.k (.mov (.tmp 115))), .mk (some 117) (some (116, false)) (.k (.load [.int .i64, .int .i64, .int .i64, .int .i64, .int .i64, .int .i64, .int .i64, .int .i64, .int .i64, .int .i64, .int .i64, .int .i64, .int .i64, .int .i64, .int .i64] true (.tmp 11))), .mk (some 118) (some (116, false)) (.k (.load [.int .i64, .int .i64, .int .i64, .int .i64, .int .i64, .int .i64, .int .i64, .int .i64, .int .i64, .int .i64, .int .i64, .int .i64, .int .i64, .int .i64, .int .i64] true (.tmp 18))), .mk (some 119) (some (116, false)) (.k (.eqa true [.int .i64, .int .i64, .int .i64, .int .i64, .int .i64, .int .i64, .int .i64, .int .i64, .int .i64, .int .i64, .int .i64, .int .i64, .int .i64, .int .i64, .int .i64] (.tmp 117) (.tmp 118))), .mk (some 120) none (.k (.pick (.tmp 116) (.const (.bool true)) (.tmp 119)))]) (.cond (.tmp 120) (.ref 2) .skip)) (.ref 15)
def T9n17 : XC := .seq (.ops [.mk (some 87) none (.k (.mov (.tmp 0))), .mk (some 88) none (.k (.mov (.tmp 1))), .mk (some 89) none (.call 37 [.tmp 87, .tmp 88]), .mk (some 18) none (.k (.alloc 79 [.int .i64 0, .int .i64 0, .int .i64 0, .int .i64 0, .int .i64 0, .int .i64 0, .int .i64 0, .int .i64 0, .int .i64 0, .int .i64 0, .int .i64 0, .int .i64 0, .int .i64 0, .int .i64 0, .int .i64 0])), .mk none none (.k (.store 15 (.tmp 18) (.tmp 89)))]) (.ref 16)
def T9n18 : XC := .seq (.ops [.mk (some 83) none (.k (.mov (.tmp 0))), .mk (some 84) none (.call 36 [.tmp 83]), .mk (some 82) none (.k (.mov (.tmp 84))), .mk (some 85) none (.k (.ext (.tmp 82) 0)), .mk (some 86) none (.k (.ext (.tmp 82) 1)), .mk (some 16) none (.k (.mov (.tmp 85))), .mk (some 17) none (.k (.mov (.tmp 86)))]) (.ref 17)
def T9n19 : XC := .seq (.ops [.mk (some 78) none (.k (.mov (.tmp 0))), .mk (some 79) none (.call 35 [.tmp 78]), .mk (some 77) none (.k (.mov (.tmp 79))), .mk (some 80) none (.k (.ext (.tmp 77) 0)), .mk (some 81) none (.k (.ext (.tmp 77) 1)), .mk (some 14) none (.k (.mov (.tmp 80))), .mk (some 15) none (.k (.mov (.tmp 81)))]) (.ref 18)
def T9n20 : XC := .seq (.seq (.ops [.mk (some 47) none (.k (.mov (.tmp 13))), .mk (some 48) none (.k (.not (.tmp 47)))]) (.cond (.tmp 48) (.ref 1) .skip)) (.ref 19)
def T9n21 : XC := .seq (.ops [.mk (some 45) none (.k (.mov (.tmp 0))), .mk (some 46) none (.call 34 [.tmp 45]), .mk (some 13) none (.k (.mov (.tmp 46)))]) (.ref 20)
def T9n22 : XC := .seq (.ops [.mk (some 40) none (.k (.mov (.tmp 5))), .mk (some 41) none (.k (.mov (.tmp 1))), .mk (some 42) none (.call 33 [.tmp 40, .tmp 41]), .mk (some 39) none (.k (.mov (.tmp 42))), .mk (some 43) none (.k (.ext (.tmp 39) 0)), .mk (some 44) none (.k (.ext (.tmp 39) 1)), .mk (some 11) none (.k (.alloc 79 [.int .i64 0, .int .i64 0, .int .i64 0, .int .i64 0, .int .i64 0, .int .i64 0, .int .i64 0, .int .i64 0, .int .i64 0, .int .i64 0, .int .i64 0, .int .i64 0, .int .i64 0, .int .i64 0, .int .i64 0])), .mk none none (.k (.store 15 (.tmp 11) (.tmp 43))), .mk (some 12) none (.k (.mov (.tmp 44)))]) (.ref 21)
def T9n23 : XC := .seq (.ops [.mk (some 34) none (.k (.mov (.tmp 5))), .mk (some 35) none (.call 32 [.tmp 34]), .mk (some 33) none (.k (.mov (.tmp 35))), .mk (some 36) none (.k (.ext (.tmp 33) 0)), .mk (some 37) none (.k (.ext (.tmp 33) 1)), .mk (some 38) none (.k (.ext (.tmp 33) 2)), .mk (some 8) none (.k (.mov (.tmp 36))), .mk (some 9) none (.k (.mov (.tmp 37))), .mk (some 10) none (.k (.mov (.tmp 38)))]) (.ref 22)
def T9n24 : XC := .seq (.ops [.mk (some 29) none (.k (.mov (.tmp 5))), .mk (some 30) none (.call 31 [.tmp 29]), .mk (some 28) none (.k (.mov (.tmp 30))), .mk (some 31) none (.k (.ext (.tmp 28) 0)), .mk (some 32) none (.k (.ext (.tmp 28) 1)), .mk (some 6) none (.k (.mov (.tmp 31))), .mk (some 7) none (.k (.mov (.tmp 32)))]) (.ref 23)
def T9n25 : XC := .seq (.ops [.mk (some 25) none (.k (.buildS 65 0 9 [.int .i64 0, .int .i64 0, .int .i64 0, .int .i64 0, .int .i64 0, .int .i64 0, .int .i64 0, .int .u64 0, .int .i64 0] [])), .mk (some 26) none (.k (.mov (.tmp 0))), .mk (some 27) none (.k (.app 65 9 72 (.tmp 25) (.tmp 26))), .mk (some 5) none (.k (.mov (.tmp 27)))]) (.ref 24)
def T9n26 : XC := .seq (.seq (.ops [.mk (some 22) none (.k (.mov (.tmp 0))), .mk (some 23) none (.k (.lenS (.tmp 22))), .mk (some 24) none (.k (.cmp .gtr .i64 (.tmp 23) (.const (.int .i64 200))))]) (.cond (.tmp 24) (.ref 0) .skip)) (.ref 25)
def T9 : Nat → XC
 | 0 => T9n0
 | 1 => T9n1
 | 2 => T9n2
 | 3 => T9n3
 | 4 => T9n4
 | 5 => T9n5
 | 6 => T9n6
 | 7 => T9n7
 | 8 => T9n8
 | 9 => T9n9
 | 10 => T9n10
 | 11 => T9n11
 | 12 => T9n12
 | 13 => T9n13
 | 14 => T9n14
 | 15 => T9n15
 | 16 => T9n16
 | 17 => T9n17
 | 18 => T9n18
 | 19 => T9n19
 | 20 => T9n20
 | 21 => T9n21
 | 22 => T9n22
 | 23 => T9n23
 | 24 => T9n24
 | 25 => T9n25
 | 26 => T9n26
 | _ => .skip
theorem t9n0 : T9 0 = T9n0 := rfl
theorem t9n1 : T9 1 = T9n1 := rfl
theorem t9n2 : T9 2 = T9n2 := rfl
theorem t9n3 : T9 3 = T9n3 := rfl
theorem t9n4 : T9 4 = T9n4 := rfl
theorem t9n5 : T9 5 = T9n5 := rfl
theorem t9n6 : T9 6 = T9n6 := rfl
theorem t9n7 : T9 7 = T9n7 := rfl
theorem t9n8 : T9 8 = T9n8 := rfl
theorem t9n9 : T9 9 = T9n9 := rfl
theorem t9n10 : T9 10 = T9n10 := rfl
theorem t9n11 : T9 11 = T9n11 := rfl
theorem t9n12 : T9 12 = T9n12 := rfl
theorem t9n13 : T9 13 = T9n13 := rfl
theorem t9n14 : T9 14 = T9n14 := rfl
theorem t9n15 : T9 15 = T9n15 := rfl
theorem t9n16 : T9 16 = T9n16 := rfl
theorem t9n17 : T9 17 = T9n17 := rfl
theorem t9n18 : T9 18 = T9n18 := rfl
theorem t9n19 : T9 19 = T9n19 := rfl
theorem t9n20 : T9 20 = T9n20 := rfl
theorem t9n21 : T9 21 = T9n21 := rfl
theorem t9n22 : T9 22 = T9n22 := rfl
theorem t9n23 : T9 23 = T9n23 := rfl
theorem t9n24 : T9 24 = T9n24 := rfl
theorem t9n25 : T9 25 = T9n25 := rfl
theorem t9n26 : T9 26 = T9n26 := rfl
def X9 : XC := .seq (.ops [.mk (some 4) none (.k (.mov (.const (.bool false))))]) (.ref 26)
abbrev K9 : List Nat := [0, 1, 4, 5, 6, 7, 8, 9, 10, 11, 12, 13, 14, 16, 17, 18, 19, 20, 21, 24, 48, 120, 124, 134, 152]
theorem n9 : Try.f9.ntmps = 176 := by kernel_rfl
theorem r9 : resT Try.f9.results.toList = some [4] := by kernel_rfl
theorem x9 : cmpF Try.prog Try.f9 = some (expand T9 28 X9) := by kernel_rfl
end Go.Proofs.Ytnedgfkgmdoahaa
