/- Printed by program: the small code of functions, and that it is theirs. -/
import Derived.Test.YtlbiogokpadaoaaGreatDoorSxStill
import Derived.Test.YtlbiogokpadaoaaGreatDoorProg
import Derived.KernelRfl
set_option linter.unusedSimpArgs false
set_option linter.unusedVariables false
set_option linter.unnecessarySimpa false
namespace Go.Proofs.YtlbiogokpadaoaaGreatDoor
open Go Go.Sx
set_option maxRecDepth 100000
theorem n4 : Tryz.f4.ntmps = 18 := by kernel_rfl
theorem r4 : resT Tryz.f4.results.toList = some [2] := by kernel_rfl
def T15n0 : XC := .seq (.ops [.mk (some 4) none (.k (.mov (.const (.bool false))))]) .ret
def T15n1 : XC := .ops [.mk (some 63) none (.k (.mov (.tmp 6))), .mk (some 64) none (.k (.mov (.tmp 10))), .mk (some 65) none (.k (.idx 5 (.tmp 63) (.tmp 64))), .mk (some 66) none (.k (.fld 0 (.tmp 65))), .mk none none (.k (.store 1 (.tmp 66) (.const (.int .i64 77))))]
def T15n2 : XC := .seq (.blk 1 (.seq (.ops [.mk (some 62) none (.k (.mov (.tmp 60))), .mk (some 10) none (.k (.mov (.tmp 62)))]) (.ref 1))) (.ops [.mk (some 67) none (.k (.arith .add .i64 (.tmp 60) (.const (.int .i64 1)))), .mk (some 60) none (.k (.mov (.tmp 67)))])
def T15n3 : XC := .seq (.cond (.tmp 61) .skip (.exit 0)) (.ref 2)
def T15n4 : XC := .seq (.ops [.mk (some 61) none (.k (.cmp .lss .i64 (.tmp 60) (.tmp 59)))]) (.ref 3)
def T15n5 : XC := .seq (.ops [.mk (some 72) none (.k (.mov (.tmp 5))), .mk (some 73) none (.k (.mov (.tmp 1))), .mk (some 74) none (.k (.lenS (.tmp 73))), .mk (some 75) none (.k (.sub 5 (.tmp 72) none (some (.tmp 74)))), .mk (some 76) none (.k (.mov (.tmp 1))), .mk (some 77) none (.call 31 [.tmp 75, .tmp 76]), .mk (some 78) none (.k (.mov (.tmp 77))), .mk (some 79) (some (78, true)) (.k (.mov (.tmp 5))), .mk (some 80) (some (78, true)) (.k (.mov (.tmp 1))), .mk (some 81) (some (78, true)) (.k (.lenS (.tmp 80))), .mk (some 82) (some (78, true)) (.k (.idx 5 (.tmp 79) (.tmp 81))), .mk (some 83) (some (78, true)) (.k (.fld 0 (.tmp 82))), .mk (some 84) (some (78, true)) (.k (.load [.int .i64] false (.tmp 83))), .mk (some 85) (some (78, true)) (.k (.cmp .eql .i64 (.tmp 84) (.const (.int .i64 77)))), .mk (some 86) none (.k (.pick (.tmp 78) (.tmp 85) (.const (.bool false)))), .mk (some 87) none (.k (.mov (.tmp 86))), .mk (some 88) (some (87, true)) (.k (.mov (.tmp 6))), .mk (some 89) (some (87, true)) (.k (.lenS (.tmp 88))), .mk (some 90) (some (87, true)) (.k (.mov (.tmp 8))), .mk (some 91) (some (87, true)) (.k (.lenS (.tmp 90))), .mk (some 92) (some (87, true)) (.k (.arith .add .i64 (.tmp 91) (.const (.int .i64 1)))), .mk (some 93) (some (87, true)) (.k (.cmp .eql .i64 (.tmp 89) (.tmp 92))), .mk (some 94) none (.k (.pick (.tmp 87) (.tmp 93) (.const (.bool false)))), .mk (some 4) none (.k (.mov (.tmp 94)))]) .ret
def T15n6 : XC := .seq (.ops [.mk (some 68) none (.k (.mov (.tmp 6))), .mk (some 69) none (.k (.build [.int .i64 0, .int .i64 0, .int .i64 0, .int .i64 0, .int .i64 0] [(0, 1, .const (.int .i64 78))])), .mk (some 70) none (.k (.buildS 41 1 5 [.int .i64 0, .int .i64 0, .int .i64 0, .int .i64 0, .int .i64 0] [(0, .tmp 69)])), .mk (some 71) none (.k (.app 41 5 40 (.tmp 68) (.tmp 70))), .mk (some 6) none (.k (.mov (.tmp 71)))]) (.ref 5)
def T15n7 : XC := .seq (.seq (.ops [.mk (some 58) none (.k (.mov (.tmp 6))), .mk (some 59) none (.k (.lenS (.tmp 58))), .mk (some 60) none (.k (.mov (.const (.int .i64 0))))]) (.blk 0 (.loop (.ref 4)))) (.ref 6)
def T15n8 : XC := .seq (.seq (.ops [.mk (some 31) none (.k (.mov (.tmp 7))), .mk (some 32) none (.k (.mov (.tmp 9))), .mk (some 33) none (.k (.cmp .neq .i64 (.tmp 31) (.tmp 32))), .mk (some 34) none (.k (.mov (.tmp 33))), .mk (some 35) (some (34, false)) (.k (.mov (.tmp 6))), .mk (some 36) (some (34, false)) (.k (.mov (.tmp 8))), .mk (some 37) (some (34, false)) (.call 31 [.tmp 35, .tmp 36]), .mk (some 38) (some (34, false)) (.k (.not (.tmp 37))), .mk (some 39) none (.k (.pick (.tmp 34) (.const (.bool true)) (.tmp 38))), .mk (some 40) none (.k (.mov (.tmp 39))), .mk (some 41) (some (40, false)) (.k (.mov (.tmp 5))), .mk (some 42) (some (40, false)) (.k (.mov (.tmp 1))), .mk (some 43) (some (40, false)) (.k (.lenS (.tmp 42))), .mk (some 44) (some (40, false)) (.k (.sub 5 (.tmp 41) none (some (.tmp 43)))), .mk (some 45) (some (40, false)) (.k (.mov (.tmp 1))), .mk (some 46) (some (40, false)) (.call 31 [.tmp 44, .tmp 45]), .mk (some 47) (some (40, false)) (.k (.not (.tmp 46))), .mk (some 48) none (.k (.pick (.tmp 40) (.const (.bool true)) (.tmp 47))), .mk (some 49) none (.k (.mov (.tmp 48))), .mk (some 50) (some (49, false)) (.k (.mov (.tmp 5))), .mk (some 51) (some (49, false)) (.k (.mov (.tmp 1))), .mk (some 52) (some (49, false)) (.k (.lenS (.tmp 51))), .mk (some 53) (some (49, false)) (.k (.idx 5 (.tmp 50) (.tmp 52))), .mk (some 54) (some (49, false)) (.k (.fld 0 (.tmp 53))), .mk (some 55) (some (49, false)) (.k (.load [.int .i64] false (.tmp 54))), .mk (some 56) (some (49, false)) (.k (.cmp .neq .i64 (.tmp 55) (.const (.int .i64 77)))), .mk (some 57) none (.k (.pick (.tmp 49) (.const (.bool true)) (.tmp 56)))]) (.cond (.tmp 57) (.ref 0) .skip)) (.ref 7)
def T15n9 : XC := .seq (.ops [.mk (some 26) none (.k (.mov (.tmp 0))), .mk (some 27) none (.k (.mov (.tmp 1))), .mk (some 28) none (.call 30 [.tmp 26, .tmp 27]), .mk (some 25) none (.k (.mov (.tmp 28))), .mk (some 29) none (.k (.ext (.tmp 25) 0)), .mk (some 30) none (.k (.ext (.tmp 25) 1)), .mk (some 8) none (.k (.mov (.tmp 29))), .mk (some 9) none (.k (.mov (.tmp 30)))]) (.ref 8)
def T15n10 : XC := .seq (.ops [.mk (some 17) none (.k (.mov (.tmp 0))), .mk (some 18) none (.k (.mov (.tmp 5))), .mk (some 19) none (.k (.mov (.tmp 1))), .mk (some 20) none (.k (.lenS (.tmp 19))), .mk (some 21) none (.k (.sub 5 (.tmp 18) none (some (.tmp 20)))), .mk (some 22) none (.call 27 [.tmp 17, .tmp 21]), .mk (some 16) none (.k (.mov (.tmp 22))), .mk (some 23) none (.k (.ext (.tmp 16) 0)), .mk (some 24) none (.k (.ext (.tmp 16) 1)), .mk (some 6) none (.k (.mov (.tmp 23))), .mk (some 7) none (.k (.mov (.tmp 24)))]) (.ref 9)
def T15n11 : XC := .seq (.ops [.mk (some 11) none (.k (.mov (.tmp 1))), .mk (some 12) none (.call 29 [.tmp 11]), .mk (some 13) none (.k (.build [.int .i64 0, .int .i64 0, .int .i64 0, .int .i64 0, .int .i64 0] [(0, 1, .const (.int .i64 77))])), .mk (some 14) none (.k (.buildS 41 1 5 [.int .i64 0, .int .i64 0, .int .i64 0, .int .i64 0, .int .i64 0] [(0, .tmp 13)])), .mk (some 15) none (.k (.app 41 5 40 (.tmp 12) (.tmp 14))), .mk (some 5) none (.k (.mov (.tmp 15)))]) (.ref 10)
def T15 : Nat → XC
 | 0 => T15n0
 | 1 => T15n1
 | 2 => T15n2
 | 3 => T15n3
 | 4 => T15n4
 | 5 => T15n5
 | 6 => T15n6
 | 7 => T15n7
 | 8 => T15n8
 | 9 => T15n9
 | 10 => T15n10
 | 11 => T15n11
 | _ => .skip
theorem t15n0 : T15 0 = T15n0 := rfl
theorem t15n1 : T15 1 = T15n1 := rfl
theorem t15n2 : T15 2 = T15n2 := rfl
theorem t15n3 : T15 3 = T15n3 := rfl
theorem t15n4 : T15 4 = T15n4 := rfl
theorem t15n5 : T15 5 = T15n5 := rfl
theorem t15n6 : T15 6 = T15n6 := rfl
theorem t15n7 : T15 7 = T15n7 := rfl
theorem t15n8 : T15 8 = T15n8 := rfl
theorem t15n9 : T15 9 = T15n9 := rfl
theorem t15n10 : T15 10 = T15n10 := rfl
theorem t15n11 : T15 11 = T15n11 := rfl
def X15 : XC := .seq (.ops [.mk (some 4) none (.k (.mov (.const (.bool false))))]) (.ref 11)
abbrev K15 : List Nat := [0, 1, 4, 5, 6, 7, 8, 9, 10, 57, 59, 60, 61]
theorem n15 : Tryz.f15.ntmps = 95 := by kernel_rfl
theorem r15 : resT Tryz.f15.results.toList = some [4] := by kernel_rfl
theorem x15 : cmpF Tryz.prog Tryz.f15 = some (expand T15 13 X15) := by kernel_rfl
def T27n0 : XC := .seq (.ops [.mk (some 9) none (.k (.mov (.tmp 1))), .mk (some 10) none (.call 55 [.tmp 9]), .mk (some 11) none (.k (.ext (.tmp 10) 0)), .mk (some 12) none (.k (.ext (.tmp 10) 1)), .mk (some 4) none (.k (.mov (.tmp 11))), .mk (some 5) none (.k (.mov (.tmp 12)))]) .ret
def T27n1 : XC := .seq (.ops [.mk (some 15) none (.k (.mov (.tmp 1))), .mk (some 16) none (.call 56 [.tmp 15]), .mk (some 17) none (.k (.ext (.tmp 16) 0)), .mk (some 18) none (.k (.ext (.tmp 16) 1)), .mk (some 4) none (.k (.mov (.tmp 17))), .mk (some 5) none (.k (.mov (.tmp 18)))]) .ret
def T27n2 : XC := .seq (.ops [.mk (some 21) none (.k (.mov (.tmp 1))), .mk (some 22) none (.call 57 [.tmp 21]), .mk (some 23) none (.k (.ext (.tmp 22) 0)), .mk (some 24) none (.k (.ext (.tmp 22) 1)), .mk (some 4) none (.k (.mov (.tmp 23))), .mk (some 5) none (.k (.mov (.tmp 24)))]) .ret
def T27n3 : XC := .seq (.ops [.mk (some 27) none (.k (.mov (.tmp 1))), .mk (some 28) none (.call 58 [.tmp 27]), .mk (some 29) none (.k (.ext (.tmp 28) 0)), .mk (some 30) none (.k (.ext (.tmp 28) 1)), .mk (some 4) none (.k (.mov (.tmp 29))), .mk (some 5) none (.k (.mov (.tmp 30)))]) .ret
def T27n4 : XC := .seq (.ops [.mk (some 26) none (.k (.cmp .eql .i64 (.tmp 6) (.const (.int .i64 3)))), .mk (some 25) none (.k (.mov (.tmp 26)))]) (.cond (.tmp 25) (.ref 3) .skip)
def T27n5 : XC := .seq (.ops [.mk (some 20) none (.k (.cmp .eql .i64 (.tmp 6) (.const (.int .i64 2)))), .mk (some 19) none (.k (.mov (.tmp 20)))]) (.cond (.tmp 19) (.ref 2) (.ref 4))
def T27n6 : XC := .seq (.ops [.mk (some 14) none (.k (.cmp .eql .i64 (.tmp 6) (.const (.int .i64 1)))), .mk (some 13) none (.k (.mov (.tmp 14)))]) (.cond (.tmp 13) (.ref 1) (.ref 5))
def T27n7 : XC := .blk 0 (.seq (.ops [.mk (some 8) none (.k (.cmp .eql .i64 (.tmp 6) (.const (.int .i64 0)))), .mk (some 7) none (.k (.mov (.tmp 8)))]) (.cond (.tmp 7) (.ref 0) (.ref 6)))
def T27n8 : XC := .seq (.ops [.mk (some 31) none (.k (.mov (.tmp 1))), .mk (some 32) none (.call 26 [.tmp 31]), .mk (some 33) none (.k (.ext (.tmp 32) 0)), .mk (some 34) none (.k (.ext (.tmp 32) 1)), .mk (some 4) none (.k (.mov (.tmp 33))), .mk (some 5) none (.k (.mov (.tmp 34)))]) .ret
def T27n9 : XC := .seq (.seq (.ops [.mk (some 6) none (.k (.mov (.tmp 0)))]) (.ref 7)) (.ref 8)
def T27 : Nat → XC
 | 0 => T27n0
 | 1 => T27n1
 | 2 => T27n2
 | 3 => T27n3
 | 4 => T27n4
 | 5 => T27n5
 | 6 => T27n6
 | 7 => T27n7
 | 8 => T27n8
 | 9 => T27n9
 | _ => .skip
theorem t27n0 : T27 0 = T27n0 := rfl
theorem t27n1 : T27 1 = T27n1 := rfl
theorem t27n2 : T27 2 = T27n2 := rfl
theorem t27n3 : T27 3 = T27n3 := rfl
theorem t27n4 : T27 4 = T27n4 := rfl
theorem t27n5 : T27 5 = T27n5 := rfl
theorem t27n6 : T27 6 = T27n6 := rfl
theorem t27n7 : T27 7 = T27n7 := rfl
theorem t27n8 : T27 8 = T27n8 := rfl
theorem t27n9 : T27 9 = T27n9 := rfl
def X27 : XC := .seq (.ops [.mk (some 4) none (.k (.mov (.const (.slice none 0 0)))), .mk (some 5) none (.k (.mov (.const (.int .i64 0))))]) (.ref 9)
abbrev K27 : List Nat := [0, 1, 4, 5, 6, 7, 13, 19, 25]
theorem n27 : Tryz.f27.ntmps = 35 := by kernel_rfl
theorem r27 : resT Tryz.f27.results.toList = some [4, 5] := by kernel_rfl
theorem x27 : cmpF Tryz.prog Tryz.f27 = some (expand T27 11 X27) := by kernel_rfl
def T30n0 : XC := .seq (.ops [.mk (some 4) none (.k (.mov (.const (.slice none 0 0)))), .mk (some 5) none (.k (.mov (.const (.int .i64 2))))]) .ret
def T30n1 : XC := .seq (.ops [.mk (some 12) none (.k (.mov (.tmp 1))), .mk (some 13) none (.call 61 [.tmp 12]), .mk (some 4) none (.k (.mov (.tmp 13))), .mk (some 5) none (.k (.mov (.const (.int .i64 0))))]) .ret
def T30n2 : XC := .seq (.ops [.mk (some 16) none (.k (.mov (.tmp 1))), .mk (some 17) none (.call 62 [.tmp 16]), .mk (some 4) none (.k (.mov (.tmp 17))), .mk (some 5) none (.k (.mov (.const (.int .i64 0))))]) .ret
def T30n3 : XC := .seq (.ops [.mk (some 20) none (.k (.mov (.tmp 1))), .mk (some 21) none (.call 63 [.tmp 20]), .mk (some 4) none (.k (.mov (.tmp 21))), .mk (some 5) none (.k (.mov (.const (.int .i64 0))))]) .ret
def T30n4 : XC := .seq (.ops [.mk (some 24) none (.k (.mov (.tmp 1))), .mk (some 25) none (.call 64 [.tmp 24]), .mk (some 4) none (.k (.mov (.tmp 25))), .mk (some 5) none (.k (.mov (.const (.int .i64 0))))]) .ret
def T30n5 : XC := .seq (.ops [.mk (some 23) none (.k (.cmp .eql .i64 (.tmp 9) (.const (.int .i64 3)))), .mk (some 22) none (.k (.mov (.tmp 23)))]) (.cond (.tmp 22) (.ref 4) .skip)
def T30n6 : XC := .seq (.ops [.mk (some 19) none (.k (.cmp .eql .i64 (.tmp 9) (.const (.int .i64 2)))), .mk (some 18) none (.k (.mov (.tmp 19)))]) (.cond (.tmp 18) (.ref 3) (.ref 5))
def T30n7 : XC := .seq (.ops [.mk (some 15) none (.k (.cmp .eql .i64 (.tmp 9) (.const (.int .i64 1)))), .mk (some 14) none (.k (.mov (.tmp 15)))]) (.cond (.tmp 14) (.ref 2) (.ref 6))
def T30n8 : XC := .blk 0 (.seq (.ops [.mk (some 11) none (.k (.cmp .eql .i64 (.tmp 9) (.const (.int .i64 0)))), .mk (some 10) none (.k (.mov (.tmp 11)))]) (.cond (.tmp 10) (.ref 1) (.ref 7)))
def T30n9 : XC := .seq (.ops [.mk (some 26) none (.k (.mov (.tmp 1))), .mk (some 27) none (.call 65 [.tmp 26]), .mk (some 4) none (.k (.mov (.tmp 27))), .mk (some 5) none (.k (.mov (.const (.int .i64 0))))]) .ret
def T30n10 : XC := .seq (.seq (.ops [.mk (some 9) none (.k (.mov (.tmp 0)))]) (.ref 8)) (.ref 9)
def T30n11 : XC := .seq (.seq (.ops [.mk (some 6) none (.k (.mov (.tmp 1))), .mk (some 7) none (.k (.lenS (.tmp 6))), .mk (some 8) none (.k (.cmp .gtr .i64 (.tmp 7) (.const (.int .i64 1024))))]) (.cond (.tmp 8) (.ref 0) .skip)) (.ref 10)
def T30 : Nat → XC
 | 0 => T30n0
 | 1 => T30n1
 | 2 => T30n2
 | 3 => T30n3
 | 4 => T30n4
 | 5 => T30n5
 | 6 => T30n6
 | 7 => T30n7
 | 8 => T30n8
 | 9 => T30n9
 | 10 => T30n10
 | 11 => T30n11
 | _ => .skip
theorem t30n0 : T30 0 = T30n0 := rfl
theorem t30n1 : T30 1 = T30n1 := rfl
theorem t30n2 : T30 2 = T30n2 := rfl
theorem t30n3 : T30 3 = T30n3 := rfl
theorem t30n4 : T30 4 = T30n4 := rfl
theorem t30n5 : T30 5 = T30n5 := rfl
theorem t30n6 : T30 6 = T30n6 := rfl
theorem t30n7 : T30 7 = T30n7 := rfl
theorem t30n8 : T30 8 = T30n8 := rfl
theorem t30n9 : T30 9 = T30n9 := rfl
theorem t30n10 : T30 10 = T30n10 := rfl
theorem t30n11 : T30 11 = T30n11 := rfl
def X30 : XC := .seq (.ops [.mk (some 4) none (.k (.mov (.const (.slice none 0 0)))), .mk (some 5) none (.k (.mov (.const (.int .i64 0))))]) (.ref 11)
abbrev K30 : List Nat := [0, 1, 4, 5, 8, 9, 10, 14, 18, 22]
theorem n30 : Tryz.f30.ntmps = 28 := by kernel_rfl
theorem r30 : resT Tryz.f30.results.toList = some [4, 5] := by kernel_rfl
theorem x30 : cmpF Tryz.prog Tryz.f30 = some (expand T30 13 X30) := by kernel_rfl
def T29n0 : XC := .seq (.ops [.mk (some 4) none (.k (.mov (.tmp 3))), .mk (some 5) none (.k (.mov (.tmp 0))), .mk (some 6) none (.k (.app 41 5 40 (.tmp 4) (.tmp 5))), .mk (some 2) none (.k (.mov (.tmp 6)))]) .ret
def T29n1 : XC := .seq (.ops [.mk (some 3) none (.k (.mov (.const (.slice none 0 0))))]) (.ref 0)
def T29 : Nat → XC
 | 0 => T29n0
 | 1 => T29n1
 | _ => .skip
theorem t29n0 : T29 0 = T29n0 := rfl
theorem t29n1 : T29 1 = T29n1 := rfl
def X29 : XC := .seq (.ops [.mk (some 2) none (.k (.mov (.const (.slice none 0 0))))]) (.ref 1)
abbrev K29 : List Nat := [0, 2, 3]
theorem n29 : Tryz.f29.ntmps = 7 := by kernel_rfl
theorem r29 : resT Tryz.f29.results.toList = some [2] := by kernel_rfl
theorem x29 : cmpF Tryz.prog Tryz.f29 = some (expand T29 3 X29) := by kernel_rfl
def T31n0 : XC := .seq (.ops [.mk (some 4) none (.k (.mov (.const (.bool false))))]) .ret
def T31n1 : XC := .seq (.ops [.mk (some 4) none (.k (.mov (.const (.bool false))))]) .ret
def T31n2 : XC := .ops [.mk (some 15) none (.k (.mov (.tmp 5))), .mk (some 16) none (.k (.arith .add .i64 (.tmp 15) (.const (.int .i64 1)))), .mk (some 5) none (.k (.mov (.tmp 16)))]
def T31n3 : XC := .seq (.blk 1 (.seq (.ops [.mk (some 17) none (.k (.mov (.tmp 0))), .mk (some 18) none (.k (.mov (.tmp 5))), .mk (some 19) none (.k (.idx 5 (.tmp 17) (.tmp 18))), .mk (some 20) none (.k (.load [.int .i64, .int .i64, .int .i64, .int .i64, .int .i64] true (.tmp 19))), .mk (some 21) none (.k (.mov (.tmp 1))), .mk (some 22) none (.k (.mov (.tmp 5))), .mk (some 23) none (.k (.idx 5 (.tmp 21) (.tmp 22))), .mk (some 24) none (.k (.load [.int .i64, .int .i64, .int .i64, .int .i64, .int .i64] true (.tmp 23))), .mk (some 25) none (.k (.eqa true [.int .i64, .int .i64, .int .i64, .int .i64, .int .i64] (.tmp 20) (.tmp 24)))]) (.cond (.tmp 25) (.ref 1) .skip))) (.ref 2)
def T31n4 : XC := .seq (.seq (.ops [.mk (some 11) none (.k (.mov (.tmp 5))), .mk (some 12) none (.k (.mov (.tmp 0))), .mk (some 13) none (.k (.lenS (.tmp 12))), .mk (some 14) none (.k (.cmp .lss .i64 (.tmp 11) (.tmp 13)))]) (.cond (.tmp 14) .skip (.exit 0))) (.ref 3)
def T31n5 : XC := .seq (.ops [.mk (some 4) none (.k (.mov (.const (.bool true))))]) .ret
def T31n6 : XC := .seq (.seq (.ops [.mk (some 5) none (.k (.mov (.const (.int .i64 0))))]) (.blk 0 (.loop (.ref 4)))) (.ref 5)
def T31n7 : XC := .seq (.seq (.ops [.mk (some 6) none (.k (.mov (.tmp 0))), .mk (some 7) none (.k (.lenS (.tmp 6))), .mk (some 8) none (.k (.mov (.tmp 1))), .mk (some 9) none (.k (.lenS (.tmp 8))), .mk (some 10) none (.k (.cmp .neq .i64 (.tmp 7) (.tmp 9)))]) (.cond (.tmp 10) (.ref 0) .skip)) (.ref 6)
def T31 : Nat → XC
 | 0 => T31n0
 | 1 => T31n1
 | 2 => T31n2
 | 3 => T31n3
 | 4 => T31n4
 | 5 => T31n5
 | 6 => T31n6
 | 7 => T31n7
 | _ => .skip
theorem t31n0 : T31 0 = T31n0 := rfl
theorem t31n1 : T31 1 = T31n1 := rfl
theorem t31n2 : T31 2 = T31n2 := rfl
theorem t31n3 : T31 3 = T31n3 := rfl
theorem t31n4 : T31 4 = T31n4 := rfl
theorem t31n5 : T31 5 = T31n5 := rfl
theorem t31n6 : T31 6 = T31n6 := rfl
theorem t31n7 : T31 7 = T31n7 := rfl
def X31 : XC := .seq (.ops [.mk (some 4) none (.k (.mov (.const (.bool false))))]) (.ref 7)
abbrev K31 : List Nat := [0, 1, 4, 5, 10, 14, 25]
theorem n31 : Tryz.f31.ntmps = 26 := by kernel_rfl
theorem r31 : resT Tryz.f31.results.toList = some [4] := by kernel_rfl
theorem x31 : cmpF Tryz.prog Tryz.f31 = some (expand T31 9 X31) := by kernel_rfl
def T82n0 : XC := .seq (.ops [.mk (some 2) none (.k (.mov (.const (.slice none 0 0))))]) .ret
def T82n1 : XC := .seq (.ops [.mk (some 5) none (.k (.buildS 41 0 5 [.int .i64 0, .int .i64 0, .int .i64 0, .int .i64 0, .int .i64 0] [])), .mk (some 6) none (.k (.mov (.tmp 0))), .mk (some 7) none (.k (.app 41 5 40 (.tmp 5) (.tmp 6))), .mk (some 2) none (.k (.mov (.tmp 7)))]) .ret
def T82n2 : XC := .seq (.seq (.ops [.mk (some 3) none (.k (.mov (.tmp 0))), .mk (some 4) none (.k (.isnil NK.s false (.tmp 3)))]) (.cond (.tmp 4) (.ref 0) .skip)) (.ref 1)
def T82 : Nat → XC
 | 0 => T82n0
 | 1 => T82n1
 | 2 => T82n2
 | _ => .skip
theorem t82n0 : T82 0 = T82n0 := rfl
theorem t82n1 : T82 1 = T82n1 := rfl
theorem t82n2 : T82 2 = T82n2 := rfl
def X82 : XC := .seq (.ops [.mk (some 2) none (.k (.mov (.const (.slice none 0 0))))]) (.ref 2)
abbrev K82 : List Nat := [0, 2, 4]
theorem n82 : Tryz.f82.ntmps = 8 := by kernel_rfl
theorem r82 : resT Tryz.f82.results.toList = some [2] := by kernel_rfl
theorem x82 : cmpF Tryz.prog Tryz.f82 = some (expand T82 4 X82) := by kernel_rfl
def T84n0 : XC := .seq (.ops [.mk (some 2) none (.k (.mov (.const (.bool false)))), .mk (some 3) none (.k (.mov (.const (.bool false))))]) .ret
def T84n1 : XC := .seq (.ops [.mk (some 17) none (.k (.fld 0 (.tmp 1))), .mk (some 18) none (.k (.load [.int .i64] false (.tmp 17))), .mk (some 19) none (.k (.cmp .eql .i64 (.tmp 18) (.const (.int .i64 13)))), .mk (some 20) none (.k (.fld 0 (.tmp 1))), .mk (some 21) none (.k (.load [.int .i64] false (.tmp 20))), .mk (some 22) none (.k (.cmp .geq .i64 (.tmp 21) (.const (.int .i64 14)))), .mk (some 23) none (.k (.mov (.tmp 22))), .mk (some 24) (some (23, true)) (.k (.fld 0 (.tmp 1))), .mk (some 25) (some (23, true)) (.k (.load [.int .i64] false (.tmp 24))), .mk (some 26) (some (23, true)) (.k (.cmp .leq .i64 (.tmp 25) (.const (.int .i64 16)))), .mk (some 27) none (.k (.pick (.tmp 23) (.tmp 26) (.const (.bool false)))), .mk (some 2) none (.k (.mov (.tmp 19))), .mk (some 3) none (.k (.mov (.tmp 27)))]) .ret
def T84n2 : XC := .seq (.seq (.ops [.mk (some 4) none (.k (.load [.int .i64, .int .i64, .int .i64, .int .i64, .int .i64] true (.tmp 1))), .mk (some 5) none (.call 21 [.tmp 4]), .mk (some 6) none (.k (.not (.tmp 5))), .mk (some 7) none (.k (.mov (.tmp 6))), .mk (some 8) (some (7, false)) (.k (.fld 4 (.tmp 1))), .mk (some 9) (some (7, false)) (.k (.load [.int .i64] false (.tmp 8))), .mk (some 10) (some (7, false)) (.k (.cmp .lss .i64 (.tmp 9) (.const (.int .i64 0)))), .mk (some 11) none (.k (.pick (.tmp 7) (.const (.bool true)) (.tmp 10))), .mk (some 12) none (.k (.mov (.tmp 11))), .mk (some 13) (some (12, false)) (.k (.fld 4 (.tmp 1))), .mk (some 14) (some (12, false)) (.k (.load [.int .i64] false (.tmp 13))), .mk (some 15) (some (12, false)) (.k (.cmp .gtr .i64 (.tmp 14) (.const (.int .i64 1024)))), .mk (some 16) none (.k (.pick (.tmp 12) (.const (.bool true)) (.tmp 15)))]) (.cond (.tmp 16) (.ref 0) .skip)) (.ref 1)
def T84 : Nat → XC
 | 0 => T84n0
 | 1 => T84n1
 | 2 => T84n2
 | _ => .skip
theorem t84n0 : T84 0 = T84n0 := rfl
theorem t84n1 : T84 1 = T84n1 := rfl
theorem t84n2 : T84 2 = T84n2 := rfl
def X84 : XC := .seq (.ops [.mk (some 1) none (.k (.box 41 5 (.tmp 0))), .mk (some 2) none (.k (.mov (.const (.bool false)))), .mk (some 3) none (.k (.mov (.const (.bool false))))]) (.ref 2)
abbrev K84 : List Nat := [0, 1, 2, 3, 16]
theorem n84 : Tryz.f84.ntmps = 28 := by kernel_rfl
theorem r84 : resT Tryz.f84.results.toList = some [2, 3] := by kernel_rfl
theorem x84 : cmpF Tryz.prog Tryz.f84 = some (expand T84 4 X84) := by kernel_rfl
def T93n0 : XC := .seq (.ops [.mk (some 2) none (.k (.mov (.const (.int .i64 0))))]) .ret
def T93n1 : XC := .seq (.ops [.mk (some 2) none (.k (.mov (.const (.int .i64 1))))]) .ret
def T93n2 : XC := .seq (.ops [.mk (some 2) none (.k (.mov (.const (.int .i64 2))))]) .ret
def T93n3 : XC := .seq (.ops [.mk (some 2) none (.k (.mov (.const (.int .i64 0))))]) .ret
def T93n4 : XC := .seq (.seq (.ops [.mk (some 21) none (.k (.fld 0 (.tmp 1))), .mk (some 22) none (.k (.load [.int .i64] false (.tmp 21))), .mk (some 23) none (.k (.cmp .geq .i64 (.tmp 22) (.const (.int .i64 14)))), .mk (some 24) none (.k (.mov (.tmp 23))), .mk (some 25) (some (24, true)) (.k (.fld 0 (.tmp 1))), .mk (some 26) (some (24, true)) (.k (.load [.int .i64] false (.tmp 25))), .mk (some 27) (some (24, true)) (.k (.cmp .leq .i64 (.tmp 26) (.const (.int .i64 16)))), .mk (some 28) none (.k (.pick (.tmp 24) (.tmp 27) (.const (.bool false))))]) (.cond (.tmp 28) (.ref 2) .skip)) (.ref 3)
def T93n5 : XC := .seq (.seq (.ops [.mk (some 18) none (.k (.fld 0 (.tmp 1))), .mk (some 19) none (.k (.load [.int .i64] false (.tmp 18))), .mk (some 20) none (.k (.cmp .eql .i64 (.tmp 19) (.const (.int .i64 13))))]) (.cond (.tmp 20) (.ref 1) .skip)) (.ref 4)
def T93n6 : XC := .seq (.seq (.ops [.mk (some 6) none (.k (.mov (.tmp 3))), .mk (some 7) none (.k (.not (.tmp 6))), .mk (some 8) none (.k (.mov (.tmp 7))), .mk (some 9) (some (8, false)) (.k (.fld 4 (.tmp 1))), .mk (some 10) (some (8, false)) (.k (.load [.int .i64] false (.tmp 9))), .mk (some 11) (some (8, false)) (.k (.cmp .lss .i64 (.tmp 10) (.const (.int .i64 0)))), .mk (some 12) none (.k (.pick (.tmp 8) (.const (.bool true)) (.tmp 11))), .mk (some 13) none (.k (.mov (.tmp 12))), .mk (some 14) (some (13, false)) (.k (.fld 4 (.tmp 1))), .mk (some 15) (some (13, false)) (.k (.load [.int .i64] false (.tmp 14))), .mk (some 16) (some (13, false)) (.k (.cmp .gtr .i64 (.tmp 15) (.const (.int .i64 1024)))), .mk (some 17) none (.k (.pick (.tmp 13) (.const (.bool true)) (.tmp 16)))]) (.cond (.tmp 17) (.ref 0) .skip)) (.ref 5)
def T93n7 : XC := .seq (.ops [.mk (some 4) none (.k (.load [.int .i64, .int .i64, .int .i64, .int .i64, .int .i64] true (.tmp 1))), .mk (some 5) none (.call 90 [.tmp 4]), .mk (some 3) none (.k (.mov (.tmp 5)))]) (.ref 6)
def T93 : Nat → XC
 | 0 => T93n0
 | 1 => T93n1
 | 2 => T93n2
 | 3 => T93n3
 | 4 => T93n4
 | 5 => T93n5
 | 6 => T93n6
 | 7 => T93n7
 | _ => .skip
theorem t93n0 : T93 0 = T93n0 := rfl
theorem t93n1 : T93 1 = T93n1 := rfl
theorem t93n2 : T93 2 = T93n2 := rfl
theorem t93n3 : T93 3 = T93n3 := rfl
theorem t93n4 : T93 4 = T93n4 := rfl
theorem t93n5 : T93 5 = T93n5 := rfl
theorem t93n6 : T93 6 = T93n6 := rfl
theorem t93n7 : T93 7 = T93n7 := rfl
def X93 : XC := .seq (.ops [.mk (some 1) none (.k (.box 41 5 (.tmp 0))), .mk (some 2) none (.k (.mov (.const (.int .i64 0))))]) (.ref 7)
abbrev K93 : List Nat := [0, 1, 2, 3, 17, 20, 28]
theorem n93 : Tryz.f93.ntmps = 29 := by kernel_rfl
theorem r93 : resT Tryz.f93.results.toList = some [2] := by kernel_rfl
theorem x93 : cmpF Tryz.prog Tryz.f93 = some (expand T93 9 X93) := by kernel_rfl
end Go.Proofs.YtlbiogokpadaoaaGreatDoor
