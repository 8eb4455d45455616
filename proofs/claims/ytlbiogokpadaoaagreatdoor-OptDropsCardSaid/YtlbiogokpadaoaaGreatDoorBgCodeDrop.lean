/- Printed by program: the small code of functions, and that it is theirs. -/
import Derived.Test.YtlbiogokpadaoaaGreatDoorSxStill
import Derived.Test.YtlbiogokpadaoaaGreatDoorProg
import Derived.KernelRfl
set_option linter.unusedSimpArgs false
set_option linter.unusedVariables false
set_option linter.unnecessarySimpa false
namespace Go.Proofs.YtlbiogokpadaoaaGreatDoor
open Go Go.Sx
set_option maxRecDepth 100000
def T5n0 : XC := .seq (.ops [.mk (some 2) none (.k (.mov (.const (.bool true))))]) .ret
def T5n1 : XC := .seq (.ops [.mk (some 16) none (.k (.mov (.tmp 0))), .mk (some 17) none (.call 15 [.const (.int .i64 2), .tmp 16]), .mk (some 18) none (.k (.mov (.tmp 17))), .mk (some 19) (some (18, true)) (.k (.mov (.tmp 0))), .mk (some 20) (some (18, true)) (.call 15 [.const (.int .i64 3), .tmp 19]), .mk (some 21) none (.k (.pick (.tmp 18) (.tmp 20) (.const (.bool false)))), .mk (some 2) none (.k (.mov (.tmp 21)))]) .ret
def T5n2 : XC := .seq (.seq (.ops [.mk (some 3) none (.k (.mov (.tmp 0))), .mk (some 4) none (.k (.lenS (.tmp 3))), .mk (some 5) none (.k (.cmp .gtr .i64 (.tmp 4) (.const (.int .i64 300)))), .mk (some 6) none (.k (.mov (.tmp 5))), .mk (some 7) (some (6, true)) (.k (.mov (.tmp 0))), .mk (some 8) (some (6, true)) (.k (.lenS (.tmp 7))), .mk (some 9) (some (6, true)) (.k (.cmp .leq .i64 (.tmp 8) (.const (.int .i64 1024)))), .mk (some 10) none (.k (.pick (.tmp 6) (.tmp 9) (.const (.bool false)))), .mk (some 11) none (.k (.mov (.tmp 10))), .mk (some 12) (some (11, false)) (.k (.mov (.tmp 0))), .mk (some 13) (some (11, false)) (.k (.lenS (.tmp 12))), .mk (some 14) (some (11, false)) (.k (.cmp .gtr .i64 (.tmp 13) (.const (.int .i64 1100)))), .mk (some 15) none (.k (.pick (.tmp 11) (.const (.bool true)) (.tmp 14)))]) (.cond (.tmp 15) (.ref 0) .skip)) (.ref 1)
def T5 : Nat → XC
 | 0 => T5n0
 | 1 => T5n1
 | 2 => T5n2
 | _ => .skip
theorem t5n0 : T5 0 = T5n0 := rfl
theorem t5n1 : T5 1 = T5n1 := rfl
theorem t5n2 : T5 2 = T5n2 := rfl
def X5 : XC := .seq (.ops [.mk (some 2) none (.k (.mov (.const (.bool false))))]) (.ref 2)
abbrev K5 : List Nat := [0, 2, 15]
theorem n5 : Tryz.f5.ntmps = 22 := by kernel_rfl
theorem r5 : resT Tryz.f5.results.toList = some [2] := by kernel_rfl
theorem x5 : cmpF Tryz.prog Tryz.f5 = some (expand T5 4 X5) := by kernel_rfl
def T57n0 : XC := .seq (.ops [.mk (some 2) none (.k (.mov (.const (.slice none 0 0)))), .mk (some 3) none (.k (.mov (.const (.int .i64 2))))]) .ret
def T57n1 : XC := .seq (.ops [.mk (some 19) none (.k (.mov (.tmp 5))), .mk (some 2) none (.k (.mov (.tmp 19))), .mk (some 3) none (.k (.mov (.const (.int .i64 0))))]) .ret
def T57n2 : XC := .seq (.seq (.ops [.mk (some 14) none (.k (.mov (.tmp 5))), .mk (some 15) none (.k (.lenS (.tmp 14))), .mk (some 16) none (.k (.load [.slc] false (.tmp 4))), .mk (some 17) none (.k (.lenS (.tmp 16))), .mk (some 18) none (.k (.cmp .eql .i64 (.tmp 15) (.tmp 17)))]) (.cond (.tmp 18) (.ref 1) .skip)) (.ops [.mk (some 20) none (.k (.mov (.tmp 5))), .mk none none (.k (.store 1 (.tmp 4) (.tmp 20)))])
def T57n3 : XC := .blk 1 (.seq (.ops [.mk (some 11) none (.k (.load [.slc] false (.tmp 4))), .mk (some 12) none (.k (.mkfn (.func 86) [] [.tmp 4])), .mk (some 13) none (.call 85 [.tmp 11, .tmp 12]), .mk (some 5) none (.k (.mov (.tmp 13)))]) (.ref 2))
def T57n4 : XC := .seq (.ops [.mk (some 9) none (.k (.mov (.tmp 0))), .mk (some 10) none (.call 82 [.tmp 9]), .mk (some 4) none (.k (.alloc 22 [.slice none 0 0])), .mk none none (.k (.store 1 (.tmp 4) (.tmp 10)))]) (.blk 0 (.loop (.ref 3)))
def T57n5 : XC := .seq (.seq (.ops [.mk (some 6) none (.k (.mov (.tmp 0))), .mk (some 7) none (.k (.lenS (.tmp 6))), .mk (some 8) none (.k (.cmp .gtr .i64 (.tmp 7) (.const (.int .i64 1024))))]) (.cond (.tmp 8) (.ref 0) .skip)) (.ref 4)
def T57 : Nat → XC
 | 0 => T57n0
 | 1 => T57n1
 | 2 => T57n2
 | 3 => T57n3
 | 4 => T57n4
 | 5 => T57n5
 | _ => .skip
theorem t57n0 : T57 0 = T57n0 := rfl
theorem t57n1 : T57 1 = T57n1 := rfl
theorem t57n2 : T57 2 = T57n2 := rfl
theorem t57n3 : T57 3 = T57n3 := rfl
theorem t57n4 : T57 4 = T57n4 := rfl
theorem t57n5 : T57 5 = T57n5 := rfl
def X57 : XC := .seq (.ops [.mk (some 2) none (.k (.mov (.const (.slice none 0 0)))), .mk (some 3) none (.k (.mov (.const (.int .i64 0))))]) (.ref 5)
abbrev K57 : List Nat := [0, 2, 3, 4, 5, 8, 18]
theorem n57 : Tryz.f57.ntmps = 21 := by kernel_rfl
theorem r57 : resT Tryz.f57.results.toList = some [2, 3] := by kernel_rfl
theorem x57 : cmpF Tryz.prog Tryz.f57 = some (expand T57 7 X57) := by kernel_rfl
def T58n0 : XC := .seq (.ops [.mk (some 16) none (.k (.mov (.tmp 5))), .mk (some 2) none (.k (.mov (.const (.slice none 0 0)))), .mk (some 3) none (.k (.mov (.tmp 16)))]) .ret
def T58n1 : XC := .ops [.mk (some 29) none (.k (.load [.slc] false (.tmp 6))), .mk (some 30) none (.k (.fld 1 (.tmp 8))), .mk (some 31) none (.k (.load [.int .i64] false (.tmp 30))), .mk (some 32) none (.k (.idx 1 (.tmp 29) (.tmp 31))), .mk none none (.k (.store 1 (.tmp 32) (.const (.bool true))))]
def T58n2 : XC := .seq (.ops [.mk (some 26) none (.k (.fld 0 (.tmp 8))), .mk (some 27) none (.k (.load [.int .i64] false (.tmp 26))), .mk (some 28) none (.k (.cmp .eql .i64 (.tmp 27) (.const (.int .i64 8))))]) (.cond (.tmp 28) (.ref 1) .skip)
def T58n3 : XC := .seq (.blk 1 (.seq (.ops [.mk (some 24) none (.k (.idx 2 (.tmp 20) (.tmp 22))), .mk (some 25) none (.k (.load [.int .i64, .int .i64] true (.tmp 24))), .mk (some 8) none (.k (.alloc 46 [.int .i64 0, .int .i64 0])), .mk none none (.k (.store 2 (.tmp 8) (.tmp 25)))]) (.ref 2))) (.ops [.mk (some 33) none (.k (.arith .add .i64 (.tmp 22) (.const (.int .i64 1)))), .mk (some 22) none (.k (.mov (.tmp 33)))])
def T58n4 : XC := .seq (.cond (.tmp 23) .skip (.exit 0)) (.ref 3)
def T58n5 : XC := .seq (.ops [.mk (some 23) none (.k (.cmp .lss .i64 (.tmp 22) (.tmp 21)))]) (.ref 4)
def T58n6 : XC := .seq (.ops [.mk (some 34) none (.k (.mov (.tmp 0))), .mk (some 35) none (.k (.mkfn (.func 87) [] [.tmp 6])), .mk (some 36) none (.call 85 [.tmp 34, .tmp 35]), .mk (some 2) none (.k (.mov (.tmp 36))), .mk (some 3) none (.k (.mov (.const (.int .i64 0))))]) .ret
def T58n7 : XC := .seq (.seq (.ops [.mk (some 20) none (.k (.mov (.tmp 4))), .mk (some 21) none (.k (.lenS (.tmp 20))), .mk (some 22) none (.k (.mov (.const (.int .i64 0))))]) (.blk 0 (.loop (.ref 5)))) (.ref 6)
def T58n8 : XC := .seq (.ops [.mk (some 17) none (.k (.mov (.tmp 0))), .mk (some 18) none (.k (.lenS (.tmp 17))), .mk (some 19) none (.k (.mkslc 4 1 1 [.bool false] (.tmp 18) (.tmp 18))), .mk (some 6) none (.k (.alloc 30 [.slice none 0 0])), .mk none none (.k (.store 1 (.tmp 6) (.tmp 19)))]) (.ref 7)
def T58n9 : XC := .seq (.seq (.ops [.mk (some 14) none (.k (.mov (.tmp 5))), .mk (some 15) none (.k (.cmp .neq .i64 (.tmp 14) (.const (.int .i64 0))))]) (.cond (.tmp 15) (.ref 0) .skip)) (.ref 8)
def T58n10 : XC := .seq (.ops [.mk (some 10) none (.k (.mov (.tmp 0))), .mk (some 11) none (.call 22 [.tmp 10]), .mk (some 9) none (.k (.mov (.tmp 11))), .mk (some 12) none (.k (.ext (.tmp 9) 0)), .mk (some 13) none (.k (.ext (.tmp 9) 1)), .mk (some 4) none (.k (.mov (.tmp 12))), .mk (some 5) none (.k (.mov (.tmp 13)))]) (.ref 9)
def T58 : Nat → XC
 | 0 => T58n0
 | 1 => T58n1
 | 2 => T58n2
 | 3 => T58n3
 | 4 => T58n4
 | 5 => T58n5
 | 6 => T58n6
 | 7 => T58n7
 | 8 => T58n8
 | 9 => T58n9
 | 10 => T58n10
 | _ => .skip
theorem t58n0 : T58 0 = T58n0 := rfl
theorem t58n1 : T58 1 = T58n1 := rfl
theorem t58n2 : T58 2 = T58n2 := rfl
theorem t58n3 : T58 3 = T58n3 := rfl
theorem t58n4 : T58 4 = T58n4 := rfl
theorem t58n5 : T58 5 = T58n5 := rfl
theorem t58n6 : T58 6 = T58n6 := rfl
theorem t58n7 : T58 7 = T58n7 := rfl
theorem t58n8 : T58 8 = T58n8 := rfl
theorem t58n9 : T58 9 = T58n9 := rfl
theorem t58n10 : T58 10 = T58n10 := rfl
def X58 : XC := .seq (.ops [.mk (some 2) none (.k (.mov (.const (.slice none 0 0)))), .mk (some 3) none (.k (.mov (.const (.int .i64 0))))]) (.ref 10)
abbrev K58 : List Nat := [0, 2, 3, 4, 5, 6, 8, 15, 20, 21, 22, 23, 28]
theorem n58 : Tryz.f58.ntmps = 37 := by kernel_rfl
theorem r58 : resT Tryz.f58.results.toList = some [2, 3] := by kernel_rfl
theorem x58 : cmpF Tryz.prog Tryz.f58 = some (expand T58 12 X58) := by kernel_rfl
def T85n0 : XC := .ops [.mk (some 33) none (.k (.mov (.tmp 5))), .mk (some 34) none (.k (.mov (.tmp 6))), .mk (some 35) none (.k (.arith .add .i64 (.tmp 34) (.const (.int .i64 1)))), .mk (some 36) none (.k (.idx 1 (.tmp 33) (.tmp 35))), .mk (some 37) none (.k (.load [.int .i64] false (.tmp 36))), .mk (some 38) none (.k (.arith .add .i64 (.tmp 37) (.const (.int .i64 1)))), .mk (some 39) none (.k (.idx 1 (.tmp 33) (.tmp 35))), .mk none none (.k (.store 1 (.tmp 39) (.tmp 38)))]
def T85n1 : XC := .seq (.ops [.mk (some 29) none (.k (.mov (.tmp 1))), .mk (some 30) none (.k (.mov (.tmp 6))), .mk (some 31) none (.callv (.tmp 29) [.tmp 30]), .mk (some 32) none (.k (.not (.tmp 31)))]) (.cond (.tmp 32) (.ref 0) .skip)
def T85n2 : XC := .seq (.ops [.mk (some 21) none (.k (.mov (.tmp 5))), .mk (some 22) none (.k (.mov (.tmp 6))), .mk (some 23) none (.k (.arith .add .i64 (.tmp 22) (.const (.int .i64 1)))), .mk (some 24) none (.k (.mov (.tmp 5))), .mk (some 25) none (.k (.mov (.tmp 6))), .mk (some 26) none (.k (.idx 1 (.tmp 24) (.tmp 25))), .mk (some 27) none (.k (.load [.int .i64] false (.tmp 26))), .mk (some 28) none (.k (.idx 1 (.tmp 21) (.tmp 23))), .mk none none (.k (.store 1 (.tmp 28) (.tmp 27)))]) (.ref 1)
def T85n3 : XC := .seq (.blk 1 (.seq (.ops [.mk (some 20) none (.k (.mov (.tmp 18))), .mk (some 6) none (.k (.mov (.tmp 20)))]) (.ref 2))) (.ops [.mk (some 40) none (.k (.arith .add .i64 (.tmp 18) (.const (.int .i64 1)))), .mk (some 18) none (.k (.mov (.tmp 40)))])
def T85n4 : XC := .seq (.cond (.tmp 19) .skip (.exit 0)) (.ref 3)
def T85n5 : XC := .seq (.ops [.mk (some 19) none (.k (.cmp .lss .i64 (.tmp 18) (.tmp 17)))]) (.ref 4)
def T85n6 : XC := .ops [.mk (some 67) none (.k (.mov (.tmp 5))), .mk (some 68) none (.k (.fld 4 (.tmp 9))), .mk (some 69) none (.k (.load [.int .i64] false (.tmp 68))), .mk (some 70) none (.k (.idx 1 (.tmp 67) (.tmp 69))), .mk (some 71) none (.k (.load [.int .i64] false (.tmp 70))), .mk (some 72) none (.k (.fld 4 (.tmp 9))), .mk none none (.k (.store 1 (.tmp 72) (.tmp 71)))]
def T85n7 : XC := .seq (.ops [.mk (some 56) none (.k (.mov (.tmp 10))), .mk (some 57) none (.k (.mov (.tmp 56))), .mk (some 58) (some (57, false)) (.k (.mov (.tmp 11))), .mk (some 59) none (.k (.pick (.tmp 57) (.const (.bool true)) (.tmp 58))), .mk (some 60) none (.k (.mov (.tmp 59))), .mk (some 61) (some (60, true)) (.k (.fld 4 (.tmp 9))), .mk (some 62) (some (60, true)) (.k (.load [.int .i64] false (.tmp 61))), .mk (some 63) (some (60, true)) (.k (.mov (.tmp 0))), .mk (some 64) (some (60, true)) (.k (.lenS (.tmp 63))), .mk (some 65) (some (60, true)) (.k (.cmp .lss .i64 (.tmp 62) (.tmp 64))), .mk (some 66) none (.k (.pick (.tmp 60) (.tmp 65) (.const (.bool false))))]) (.cond (.tmp 66) (.ref 6) .skip)
def T85n8 : XC := .ops [.mk (some 73) none (.k (.mov (.tmp 7))), .mk (some 74) none (.k (.load [.int .i64, .int .i64, .int .i64, .int .i64, .int .i64] true (.tmp 9))), .mk (some 75) none (.k (.buildS 41 1 5 [.int .i64 0, .int .i64 0, .int .i64 0, .int .i64 0, .int .i64 0] [(0, .tmp 74)])), .mk (some 76) none (.k (.app 41 5 40 (.tmp 73) (.tmp 75))), .mk (some 7) none (.k (.mov (.tmp 76)))]
def T85n9 : XC := .seq (.seq (.ops [.mk (some 52) none (.k (.load [.int .i64, .int .i64, .int .i64, .int .i64, .int .i64] true (.tmp 9))), .mk (some 53) none (.call 84 [.tmp 52]), .mk (some 51) none (.k (.mov (.tmp 53))), .mk (some 54) none (.k (.ext (.tmp 51) 0)), .mk (some 55) none (.k (.ext (.tmp 51) 1)), .mk (some 10) none (.k (.mov (.tmp 54))), .mk (some 11) none (.k (.mov (.tmp 55)))]) (.ref 7)) (.ref 8)
def T85n10 : XC := .seq (.seq (.ops [.mk (some 48) none (.k (.mov (.tmp 1))), .mk (some 49) none (.k (.mov (.tmp 8))), .mk (some 50) none (.callv (.tmp 48) [.tmp 49])]) (.cond (.tmp 50) (.exit 3) .skip)) (.ref 9)
def T85n11 : XC := .seq (.blk 3 (.seq (.ops [.mk (some 45) none (.k (.mov (.tmp 43))), .mk (some 46) none (.k (.idx 5 (.tmp 41) (.tmp 43))), .mk (some 47) none (.k (.load [.int .i64, .int .i64, .int .i64, .int .i64, .int .i64] true (.tmp 46))), .mk (some 9) none (.k (.alloc 41 [.int .i64 0, .int .i64 0, .int .i64 0, .int .i64 0, .int .i64 0])), .mk (some 8) none (.k (.mov (.tmp 45))), .mk none none (.k (.store 5 (.tmp 9) (.tmp 47)))]) (.ref 10))) (.ops [.mk (some 77) none (.k (.arith .add .i64 (.tmp 43) (.const (.int .i64 1)))), .mk (some 43) none (.k (.mov (.tmp 77)))])
def T85n12 : XC := .seq (.cond (.tmp 44) .skip (.exit 2)) (.ref 11)
def T85n13 : XC := .seq (.ops [.mk (some 44) none (.k (.cmp .lss .i64 (.tmp 43) (.tmp 42)))]) (.ref 12)
def T85n14 : XC := .seq (.ops [.mk (some 78) none (.k (.mov (.tmp 7))), .mk (some 4) none (.k (.mov (.tmp 78)))]) .ret
def T85n15 : XC := .seq (.seq (.ops [.mk (some 41) none (.k (.mov (.tmp 0))), .mk (some 42) none (.k (.lenS (.tmp 41))), .mk (some 43) none (.k (.mov (.const (.int .i64 0))))]) (.blk 2 (.loop (.ref 13)))) (.ref 14)
def T85n16 : XC := .seq (.ops [.mk (some 7) none (.k (.mov (.const (.slice none 0 0))))]) (.ref 15)
def T85n17 : XC := .seq (.seq (.ops [.mk (some 16) none (.k (.mov (.tmp 0))), .mk (some 17) none (.k (.lenS (.tmp 16))), .mk (some 18) none (.k (.mov (.const (.int .i64 0))))]) (.blk 0 (.loop (.ref 5)))) (.ref 16)
def T85n18 : XC := .seq (.ops [.mk (some 12) none (.k (.mov (.tmp 0))), .mk (some 13) none (.k (.lenS (.tmp 12))), .mk (some 14) none (.k (.arith .add .i64 (.tmp 13) (.const (.int .i64 1)))), .mk (some 15) none (.k (.mkslc 3 1 8 [.int .i64 0] (.tmp 14) (.tmp 14))), .mk (some 5) none (.k (.mov (.tmp 15)))]) (.ref 17)
def T85 : Nat → XC
 | 0 => T85n0
 | 1 => T85n1
 | 2 => T85n2
 | 3 => T85n3
 | 4 => T85n4
 | 5 => T85n5
 | 6 => T85n6
 | 7 => T85n7
 | 8 => T85n8
 | 9 => T85n9
 | 10 => T85n10
 | 11 => T85n11
 | 12 => T85n12
 | 13 => T85n13
 | 14 => T85n14
 | 15 => T85n15
 | 16 => T85n16
 | 17 => T85n17
 | 18 => T85n18
 | _ => .skip
theorem t85n0 : T85 0 = T85n0 := rfl
theorem t85n1 : T85 1 = T85n1 := rfl
theorem t85n2 : T85 2 = T85n2 := rfl
theorem t85n3 : T85 3 = T85n3 := rfl
theorem t85n4 : T85 4 = T85n4 := rfl
theorem t85n5 : T85 5 = T85n5 := rfl
theorem t85n6 : T85 6 = T85n6 := rfl
theorem t85n7 : T85 7 = T85n7 := rfl
theorem t85n8 : T85 8 = T85n8 := rfl
theorem t85n9 : T85 9 = T85n9 := rfl
theorem t85n10 : T85 10 = T85n10 := rfl
theorem t85n11 : T85 11 = T85n11 := rfl
theorem t85n12 : T85 12 = T85n12 := rfl
theorem t85n13 : T85 13 = T85n13 := rfl
theorem t85n14 : T85 14 = T85n14 := rfl
theorem t85n15 : T85 15 = T85n15 := rfl
theorem t85n16 : T85 16 = T85n16 := rfl
theorem t85n17 : T85 17 = T85n17 := rfl
theorem t85n18 : T85 18 = T85n18 := rfl
def X85 : XC := .seq (.ops [.mk (some 4) none (.k (.mov (.const (.slice none 0 0))))]) (.ref 18)
abbrev K85 : List Nat := [0, 1, 4, 5, 6, 7, 8, 9, 10, 11, 17, 18, 19, 32, 41, 42, 43, 44, 50, 66]
theorem n85 : Tryz.f85.ntmps = 79 := by kernel_rfl
theorem r85 : resT Tryz.f85.results.toList = some [4] := by kernel_rfl
theorem x85 : cmpF Tryz.prog Tryz.f85 = some (expand T85 20 X85) := by kernel_rfl
def T86n0 : XC := .seq (.ops [.mk (some 14) none (.k (.mov (.tmp 4))), .mk (some 15) none (.k (.mov (.tmp 14))), .mk (some 16) (some (15, true)) (.k (.load [.slc] false (.tmp 1))), .mk (some 17) (some (15, true)) (.k (.mov (.tmp 0))), .mk (some 18) (some (15, true)) (.k (.idx 5 (.tmp 16) (.tmp 17))), .mk (some 19) (some (15, true)) (.k (.fld 4 (.tmp 18))), .mk (some 20) (some (15, true)) (.k (.load [.int .i64] false (.tmp 19))), .mk (some 21) (some (15, true)) (.k (.mov (.tmp 0))), .mk (some 22) (some (15, true)) (.k (.arith .add .i64 (.tmp 21) (.const (.int .i64 1)))), .mk (some 23) (some (15, true)) (.k (.cmp .eql .i64 (.tmp 20) (.tmp 22))), .mk (some 24) none (.k (.pick (.tmp 15) (.tmp 23) (.const (.bool false)))), .mk (some 3) none (.k (.mov (.tmp 24)))]) .ret
def T86n1 : XC := .seq (.ops [.mk (some 7) none (.k (.load [.slc] false (.tmp 1))), .mk (some 8) none (.k (.mov (.tmp 0))), .mk (some 9) none (.k (.idx 5 (.tmp 7) (.tmp 8))), .mk (some 10) none (.k (.load [.int .i64, .int .i64, .int .i64, .int .i64, .int .i64] true (.tmp 9))), .mk (some 11) none (.call 84 [.tmp 10]), .mk (some 6) none (.k (.mov (.tmp 11))), .mk (some 12) none (.k (.ext (.tmp 6) 0)), .mk (some 13) none (.k (.ext (.tmp 6) 1)), .mk (some 4) none (.k (.mov (.tmp 12))), .mk (some 5) none (.k (.mov (.tmp 13)))]) (.ref 0)
def T86 : Nat → XC
 | 0 => T86n0
 | 1 => T86n1
 | _ => .skip
theorem t86n0 : T86 0 = T86n0 := rfl
theorem t86n1 : T86 1 = T86n1 := rfl
def X86 : XC := .seq (.ops [.mk (some 3) none (.k (.mov (.const (.bool false))))]) (.ref 1)
abbrev K86 : List Nat := [0, 1, 3, 4]
theorem n86 : Tryz.f86.ntmps = 25 := by kernel_rfl
theorem r86 : resT Tryz.f86.results.toList = some [3] := by kernel_rfl
theorem x86 : cmpF Tryz.prog Tryz.f86 = some (expand T86 3 X86) := by kernel_rfl
def T87n0 : XC := .seq (.ops [.mk (some 4) none (.k (.load [.slc] false (.tmp 1))), .mk (some 5) none (.k (.mov (.tmp 0))), .mk (some 6) none (.k (.idx 1 (.tmp 4) (.tmp 5))), .mk (some 7) none (.k (.load [.bool] false (.tmp 6))), .mk (some 3) none (.k (.mov (.tmp 7)))]) .ret
def T87 : Nat → XC
 | 0 => T87n0
 | _ => .skip
theorem t87n0 : T87 0 = T87n0 := rfl
def X87 : XC := .seq (.ops [.mk (some 3) none (.k (.mov (.const (.bool false))))]) (.ref 0)
abbrev K87 : List Nat := [0, 1, 3]
theorem n87 : Tryz.f87.ntmps = 8 := by kernel_rfl
theorem r87 : resT Tryz.f87.results.toList = some [3] := by kernel_rfl
theorem x87 : cmpF Tryz.prog Tryz.f87 = some (expand T87 2 X87) := by kernel_rfl
def T94n0 : XC := .ops [.mk (some 47) none (.k (.mov (.tmp 9))), .mk (some 48) none (.k (.arith .add .i64 (.tmp 47) (.const (.int .i64 1)))), .mk (some 9) none (.k (.mov (.tmp 48)))]
def T94n1 : XC := .ops [.mk (some 40) none (.k (.mov (.tmp 10))), .mk (some 41) none (.k (.arith .add .i64 (.tmp 40) (.const (.int .i64 1)))), .mk (some 10) none (.k (.mov (.tmp 41)))]
def T94n2 : XC := .seq (.blk 3 (.seq (.ops [.mk (some 42) none (.k (.mov (.tmp 1))), .mk (some 43) none (.k (.mov (.tmp 10))), .mk (some 44) none (.k (.idx 1 (.tmp 42) (.tmp 43))), .mk (some 45) none (.k (.load [.bool] false (.tmp 44))), .mk (some 46) none (.k (.not (.tmp 45)))]) (.cond (.tmp 46) (.ref 0) .skip))) (.ref 1)
def T94n3 : XC := .seq (.seq (.ops [.mk (some 36) none (.k (.mov (.tmp 10))), .mk (some 37) none (.k (.fld 4 (.tmp 7))), .mk (some 38) none (.k (.load [.int .i64] false (.tmp 37))), .mk (some 39) none (.k (.cmp .lss .i64 (.tmp 36) (.tmp 38)))]) (.cond (.tmp 39) .skip (.exit 2))) (.ref 2)
def T94n4 : XC := .ops [.mk (some 49) none (.k (.mov (.tmp 9))), .mk (some 50) none (.k (.fld 4 (.tmp 7))), .mk none none (.k (.store 1 (.tmp 50) (.tmp 49)))]
def T94n5 : XC := .seq (.seq (.ops [.mk (some 10) none (.k (.mov (.const (.int .i64 0))))]) (.blk 2 (.loop (.ref 3)))) (.ref 4)
def T94n6 : XC := .seq (.ops [.mk (some 9) none (.k (.mov (.const (.int .i64 0))))]) (.ref 5)
def T94n7 : XC := .ops [.mk (some 51) none (.k (.mov (.tmp 5))), .mk (some 52) none (.k (.load [.int .i64, .int .i64, .int .i64, .int .i64, .int .i64] true (.tmp 7))), .mk (some 53) none (.k (.buildS 41 1 5 [.int .i64 0, .int .i64 0, .int .i64 0, .int .i64 0, .int .i64 0] [(0, .tmp 52)])), .mk (some 54) none (.k (.app 41 5 40 (.tmp 51) (.tmp 53))), .mk (some 5) none (.k (.mov (.tmp 54)))]
def T94n8 : XC := .seq (.seq (.ops [.mk (some 27) none (.k (.mov (.tmp 8))), .mk (some 28) none (.k (.cmp .neq .i64 (.tmp 27) (.const (.int .i64 0)))), .mk (some 29) none (.k (.mov (.tmp 28))), .mk (some 30) (some (29, true)) (.k (.fld 4 (.tmp 7))), .mk (some 31) (some (29, true)) (.k (.load [.int .i64] false (.tmp 30))), .mk (some 32) (some (29, true)) (.k (.mov (.tmp 0))), .mk (some 33) (some (29, true)) (.k (.lenS (.tmp 32))), .mk (some 34) (some (29, true)) (.k (.cmp .lss .i64 (.tmp 31) (.tmp 33))), .mk (some 35) none (.k (.pick (.tmp 29) (.tmp 34) (.const (.bool false))))]) (.cond (.tmp 35) (.ref 6) .skip)) (.ref 7)
def T94n9 : XC := .seq (.ops [.mk (some 25) none (.k (.load [.int .i64, .int .i64, .int .i64, .int .i64, .int .i64] true (.tmp 7))), .mk (some 26) none (.call 93 [.tmp 25]), .mk (some 8) none (.k (.mov (.tmp 26)))]) (.ref 8)
def T94n10 : XC := .seq (.ops [.mk (some 21) none (.k (.mov (.tmp 0))), .mk (some 22) none (.k (.mov (.tmp 6))), .mk (some 23) none (.k (.idx 5 (.tmp 21) (.tmp 22))), .mk (some 24) none (.k (.load [.int .i64, .int .i64, .int .i64, .int .i64, .int .i64] true (.tmp 23))), .mk (some 7) none (.k (.alloc 41 [.int .i64 0, .int .i64 0, .int .i64 0, .int .i64 0, .int .i64 0])), .mk none none (.k (.store 5 (.tmp 7) (.tmp 24)))]) (.ref 9)
def T94n11 : XC := .ops [.mk (some 15) none (.k (.mov (.tmp 6))), .mk (some 16) none (.k (.arith .add .i64 (.tmp 15) (.const (.int .i64 1)))), .mk (some 6) none (.k (.mov (.tmp 16)))]
def T94n12 : XC := .seq (.blk 1 (.seq (.seq (.ops [.mk (some 17) none (.k (.mov (.tmp 1))), .mk (some 18) none (.k (.mov (.tmp 6))), .mk (some 19) none (.k (.idx 1 (.tmp 17) (.tmp 18))), .mk (some 20) none (.k (.load [.bool] false (.tmp 19)))]) (.cond (.tmp 20) (.exit 1) .skip)) (.ref 10))) (.ref 11)
def T94n13 : XC := .seq (.seq (.ops [.mk (some 11) none (.k (.mov (.tmp 6))), .mk (some 12) none (.k (.mov (.tmp 0))), .mk (some 13) none (.k (.lenS (.tmp 12))), .mk (some 14) none (.k (.cmp .lss .i64 (.tmp 11) (.tmp 13)))]) (.cond (.tmp 14) .skip (.exit 0))) (.ref 12)
def T94n14 : XC := .seq (.ops [.mk (some 55) none (.k (.mov (.tmp 5))), .mk (some 4) none (.k (.mov (.tmp 55)))]) .ret
def T94n15 : XC := .seq (.seq (.ops [.mk (some 6) none (.k (.mov (.const (.int .i64 0))))]) (.blk 0 (.loop (.ref 13)))) (.ref 14)
def T94n16 : XC := .seq (.ops [.mk (some 5) none (.k (.mov (.const (.slice none 0 0))))]) (.ref 15)
def T94 : Nat → XC
 | 0 => T94n0
 | 1 => T94n1
 | 2 => T94n2
 | 3 => T94n3
 | 4 => T94n4
 | 5 => T94n5
 | 6 => T94n6
 | 7 => T94n7
 | 8 => T94n8
 | 9 => T94n9
 | 10 => T94n10
 | 11 => T94n11
 | 12 => T94n12
 | 13 => T94n13
 | 14 => T94n14
 | 15 => T94n15
 | 16 => T94n16
 | _ => .skip
theorem t94n0 : T94 0 = T94n0 := rfl
theorem t94n1 : T94 1 = T94n1 := rfl
theorem t94n2 : T94 2 = T94n2 := rfl
theorem t94n3 : T94 3 = T94n3 := rfl
theorem t94n4 : T94 4 = T94n4 := rfl
theorem t94n5 : T94 5 = T94n5 := rfl
theorem t94n6 : T94 6 = T94n6 := rfl
theorem t94n7 : T94 7 = T94n7 := rfl
theorem t94n8 : T94 8 = T94n8 := rfl
theorem t94n9 : T94 9 = T94n9 := rfl
theorem t94n10 : T94 10 = T94n10 := rfl
theorem t94n11 : T94 11 = T94n11 := rfl
theorem t94n12 : T94 12 = T94n12 := rfl
theorem t94n13 : T94 13 = T94n13 := rfl
theorem t94n14 : T94 14 = T94n14 := rfl
theorem t94n15 : T94 15 = T94n15 := rfl
theorem t94n16 : T94 16 = T94n16 := rfl
def X94 : XC := .seq (.ops [.mk (some 4) none (.k (.mov (.const (.slice none 0 0))))]) (.ref 16)
abbrev K94 : List Nat := [0, 1, 4, 5, 6, 7, 8, 9, 10, 14, 20, 35, 39, 46]
theorem n94 : Tryz.f94.ntmps = 56 := by kernel_rfl
theorem r94 : resT Tryz.f94.results.toList = some [4] := by kernel_rfl
theorem x94 : cmpF Tryz.prog Tryz.f94 = some (expand T94 18 X94) := by kernel_rfl
def T63n0 : XC := .ops [.mk (some 30) none (.k (.mov (.tmp 5))), .mk (some 31) none (.k (.mov (.tmp 6))), .mk (some 32) none (.k (.mov (.tmp 7))), .mk (some 33) none (.k (.cmp .eql .i64 (.tmp 32) (.const (.int .i64 1)))), .mk (some 34) none (.k (.mov (.tmp 33))), .mk (some 35) (some (34, true)) (.k (.mov (.tmp 3))), .mk (some 36) (some (34, true)) (.k (.mov (.tmp 6))), .mk (some 37) (some (34, true)) (.k (.idx 5 (.tmp 35) (.tmp 36))), .mk (some 38) (some (34, true)) (.k (.fld 4 (.tmp 37))), .mk (some 39) (some (34, true)) (.k (.load [.int .i64] false (.tmp 38))), .mk (some 40) (some (34, true)) (.k (.mov (.tmp 6))), .mk (some 41) (some (34, true)) (.k (.arith .add .i64 (.tmp 40) (.const (.int .i64 1)))), .mk (some 42) (some (34, true)) (.k (.cmp .eql .i64 (.tmp 39) (.tmp 41))), .mk (some 43) none (.k (.pick (.tmp 34) (.tmp 42) (.const (.bool false)))), .mk (some 44) none (.k (.idx 1 (.tmp 30) (.tmp 31))), .mk none none (.k (.store 1 (.tmp 44) (.tmp 43)))]
def T63n1 : XC := .ops [.mk (some 23) none (.k (.mov (.tmp 6))), .mk (some 24) none (.k (.arith .add .i64 (.tmp 23) (.const (.int .i64 1)))), .mk (some 6) none (.k (.mov (.tmp 24)))]
def T63n2 : XC := .seq (.blk 3 (.seq (.ops [.mk (some 25) none (.k (.mov (.tmp 3))), .mk (some 26) none (.k (.mov (.tmp 6))), .mk (some 27) none (.k (.idx 5 (.tmp 25) (.tmp 26))), .mk (some 28) none (.k (.load [.int .i64, .int .i64, .int .i64, .int .i64, .int .i64] true (.tmp 27))), .mk (some 29) none (.call 93 [.tmp 28]), .mk (some 7) none (.k (.mov (.tmp 29)))]) (.ref 0))) (.ref 1)
def T63n3 : XC := .seq (.seq (.ops [.mk (some 19) none (.k (.mov (.tmp 6))), .mk (some 20) none (.k (.mov (.tmp 3))), .mk (some 21) none (.k (.lenS (.tmp 20))), .mk (some 22) none (.k (.cmp .lss .i64 (.tmp 19) (.tmp 21)))]) (.cond (.tmp 22) .skip (.exit 2))) (.ref 2)
def T63n4 : XC := .ops [.mk (some 45) none (.k (.mov (.tmp 3))), .mk (some 46) none (.k (.mov (.tmp 5))), .mk (some 47) none (.call 94 [.tmp 45, .tmp 46]), .mk (some 3) none (.k (.mov (.tmp 47)))]
def T63n5 : XC := .seq (.seq (.ops [.mk (some 6) none (.k (.mov (.const (.int .i64 0))))]) (.blk 2 (.loop (.ref 3)))) (.ref 4)
def T63n6 : XC := .ops [.mk (some 14) none (.k (.mov (.tmp 4))), .mk (some 15) none (.k (.arith .add .i64 (.tmp 14) (.const (.int .i64 1)))), .mk (some 4) none (.k (.mov (.tmp 15)))]
def T63n7 : XC := .seq (.blk 1 (.seq (.ops [.mk (some 16) none (.k (.mov (.tmp 3))), .mk (some 17) none (.k (.lenS (.tmp 16))), .mk (some 18) none (.k (.mkslc 4 1 1 [.bool false] (.tmp 17) (.tmp 17))), .mk (some 5) none (.k (.mov (.tmp 18)))]) (.ref 5))) (.ref 6)
def T63n8 : XC := .seq (.seq (.ops [.mk (some 10) none (.k (.mov (.tmp 4))), .mk (some 11) none (.k (.mov (.tmp 0))), .mk (some 12) none (.k (.lenS (.tmp 11))), .mk (some 13) none (.k (.cmp .leq .i64 (.tmp 10) (.tmp 12)))]) (.cond (.tmp 13) .skip (.exit 0))) (.ref 7)
def T63n9 : XC := .seq (.ops [.mk (some 48) none (.k (.mov (.tmp 3))), .mk (some 2) none (.k (.mov (.tmp 48)))]) .ret
def T63n10 : XC := .seq (.seq (.ops [.mk (some 4) none (.k (.mov (.const (.int .i64 0))))]) (.blk 0 (.loop (.ref 8)))) (.ref 9)
def T63n11 : XC := .seq (.ops [.mk (some 8) none (.k (.mov (.tmp 0))), .mk (some 9) none (.call 29 [.tmp 8]), .mk (some 3) none (.k (.mov (.tmp 9)))]) (.ref 10)
def T63 : Nat → XC
 | 0 => T63n0
 | 1 => T63n1
 | 2 => T63n2
 | 3 => T63n3
 | 4 => T63n4
 | 5 => T63n5
 | 6 => T63n6
 | 7 => T63n7
 | 8 => T63n8
 | 9 => T63n9
 | 10 => T63n10
 | 11 => T63n11
 | _ => .skip
theorem t63n0 : T63 0 = T63n0 := rfl
theorem t63n1 : T63 1 = T63n1 := rfl
theorem t63n2 : T63 2 = T63n2 := rfl
theorem t63n3 : T63 3 = T63n3 := rfl
theorem t63n4 : T63 4 = T63n4 := rfl
theorem t63n5 : T63 5 = T63n5 := rfl
theorem t63n6 : T63 6 = T63n6 := rfl
theorem t63n7 : T63 7 = T63n7 := rfl
theorem t63n8 : T63 8 = T63n8 := rfl
theorem t63n9 : T63 9 = T63n9 := rfl
theorem t63n10 : T63 10 = T63n10 := rfl
theorem t63n11 : T63 11 = T63n11 := rfl
def X63 : XC := .seq (.ops [.mk (some 2) none (.k (.mov (.const (.slice none 0 0))))]) (.ref 11)
abbrev K63 : List Nat := [0, 2, 3, 4, 5, 6, 7, 13, 22]
theorem n63 : Tryz.f63.ntmps = 49 := by kernel_rfl
theorem r63 : resT Tryz.f63.results.toList = some [2] := by kernel_rfl
theorem x63 : cmpF Tryz.prog Tryz.f63 = some (expand T63 13 X63) := by kernel_rfl
def T64n0 : XC := .ops [.mk (some 27) none (.k (.mov (.tmp 5))), .mk (some 28) none (.k (.mov (.tmp 3))), .mk (some 29) none (.k (.mov (.tmp 6))), .mk (some 30) none (.k (.idx 2 (.tmp 28) (.tmp 29))), .mk (some 31) none (.k (.fld 1 (.tmp 30))), .mk (some 32) none (.k (.load [.int .i64] false (.tmp 31))), .mk (some 33) none (.k (.idx 1 (.tmp 27) (.tmp 32))), .mk none none (.k (.store 1 (.tmp 33) (.const (.bool true))))]
def T64n1 : XC := .ops [.mk (some 19) none (.k (.mov (.tmp 6))), .mk (some 20) none (.k (.arith .add .i64 (.tmp 19) (.const (.int .i64 1)))), .mk (some 6) none (.k (.mov (.tmp 20)))]
def T64n2 : XC := .seq (.blk 1 (.seq (.ops [.mk (some 21) none (.k (.mov (.tmp 3))), .mk (some 22) none (.k (.mov (.tmp 6))), .mk (some 23) none (.k (.idx 2 (.tmp 21) (.tmp 22))), .mk (some 24) none (.k (.fld 0 (.tmp 23))), .mk (some 25) none (.k (.load [.int .i64] false (.tmp 24))), .mk (some 26) none (.k (.cmp .eql .i64 (.tmp 25) (.const (.int .i64 8))))]) (.cond (.tmp 26) (.ref 0) .skip))) (.ref 1)
def T64n3 : XC := .seq (.seq (.ops [.mk (some 15) none (.k (.mov (.tmp 6))), .mk (some 16) none (.k (.mov (.tmp 3))), .mk (some 17) none (.k (.lenS (.tmp 16))), .mk (some 18) none (.k (.cmp .lss .i64 (.tmp 15) (.tmp 17)))]) (.cond (.tmp 18) .skip (.exit 0))) (.ref 2)
def T64n4 : XC := .seq (.ops [.mk (some 34) none (.k (.mov (.tmp 0))), .mk (some 35) none (.k (.mov (.tmp 5))), .mk (some 36) none (.call 94 [.tmp 34, .tmp 35]), .mk (some 2) none (.k (.mov (.tmp 36)))]) .ret
def T64n5 : XC := .seq (.seq (.ops [.mk (some 6) none (.k (.mov (.const (.int .i64 0))))]) (.blk 0 (.loop (.ref 3)))) (.ref 4)
def T64n6 : XC := .seq (.ops [.mk (some 12) none (.k (.mov (.tmp 0))), .mk (some 13) none (.k (.lenS (.tmp 12))), .mk (some 14) none (.k (.mkslc 4 1 1 [.bool false] (.tmp 13) (.tmp 13))), .mk (some 5) none (.k (.mov (.tmp 14)))]) (.ref 5)
def T64n7 : XC := .seq (.ops [.mk (some 8) none (.k (.mov (.tmp 0))), .mk (some 9) none (.call 95 [.tmp 8]), .mk (some 7) none (.k (.mov (.tmp 9))), .mk (some 10) none (.k (.ext (.tmp 7) 0)), .mk (some 11) none (.k (.ext (.tmp 7) 1)), .mk (some 3) none (.k (.mov (.tmp 10))), .mk (some 4) none (.k (.mov (.tmp 11)))]) (.ref 6)
def T64 : Nat → XC
 | 0 => T64n0
 | 1 => T64n1
 | 2 => T64n2
 | 3 => T64n3
 | 4 => T64n4
 | 5 => T64n5
 | 6 => T64n6
 | 7 => T64n7
 | _ => .skip
theorem t64n0 : T64 0 = T64n0 := rfl
theorem t64n1 : T64 1 = T64n1 := rfl
theorem t64n2 : T64 2 = T64n2 := rfl
theorem t64n3 : T64 3 = T64n3 := rfl
theorem t64n4 : T64 4 = T64n4 := rfl
theorem t64n5 : T64 5 = T64n5 := rfl
theorem t64n6 : T64 6 = T64n6 := rfl
theorem t64n7 : T64 7 = T64n7 := rfl
def X64 : XC := .seq (.ops [.mk (some 2) none (.k (.mov (.const (.slice none 0 0))))]) (.ref 7)
abbrev K64 : List Nat := [0, 2, 3, 5, 6, 18, 26]
theorem n64 : Tryz.f64.ntmps = 37 := by kernel_rfl
theorem r64 : resT Tryz.f64.results.toList = some [2] := by kernel_rfl
theorem x64 : cmpF Tryz.prog Tryz.f64 = some (expand T64 9 X64) := by kernel_rfl
end Go.Proofs.YtlbiogokpadaoaaGreatDoor
