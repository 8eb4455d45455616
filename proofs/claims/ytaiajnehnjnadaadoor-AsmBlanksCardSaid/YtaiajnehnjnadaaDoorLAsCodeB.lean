/- Printed by program: the small code of functions, and that it is theirs. -/
import Derived.Test.YtaiajnehnjnadaaDoorSxStill
import Derived.Test.YtaiajnehnjnadaaDoorProg
import Derived.KernelRfl
set_option linter.unusedSimpArgs false
set_option linter.unusedVariables false
set_option linter.unnecessarySimpa false
namespace Go.Proofs.YtaiajnehnjnadaaDoor
open Go Go.Sx
set_option maxRecDepth 100000
def T4n0 : XC := .seq (.ops [.mk (some 28) none (.k (.mov (.tmp 5))), .mk (some 4) none (.k (.mov (.tmp 28)))]) .ret
def T4n1 : XC := .seq (.ops [.mk (some 39) none (.k (.mov (.tmp 5))), .mk (some 4) none (.k (.mov (.tmp 39)))]) .ret
def T4n2 : XC := .ops [.mk (some 33) none (.k (.mov (.tmp 6))), .mk (some 34) none (.k (.arith .add .i64 (.tmp 33) (.const (.int .i64 1)))), .mk (some 6) none (.k (.mov (.tmp 34)))]
def T4n3 : XC := .seq (.blk 1 (.seq (.ops [.mk (some 35) none (.k (.mov (.tmp 1))), .mk (some 36) none (.k (.mov (.tmp 6))), .mk (some 37) none (.k (.ixT (.tmp 35) (.tmp 36))), .mk (some 38) none (.k (.cmp .eql .u8 (.tmp 37) (.const (.int .u8 10))))]) (.cond (.tmp 38) (.ref 1) .skip))) (.ref 2)
def T4n4 : XC := .seq (.seq (.ops [.mk (some 29) none (.k (.mov (.tmp 6))), .mk (some 30) none (.k (.mov (.tmp 1))), .mk (some 31) none (.k (.lenT (.tmp 30))), .mk (some 32) none (.k (.cmp .lss .i64 (.tmp 29) (.tmp 31)))]) (.cond (.tmp 32) .skip (.exit 0))) (.ref 3)
def T4n5 : XC := .ops [.mk (some 55) none (.k (.mov (.tmp 7))), .mk (some 56) none (.k (.app 5 1 1 (.tmp 55) (.const (.string (ByteArray.mk (Array.mk [UInt8.ofNat 10, UInt8.ofNat 10, UInt8.ofNat 32, UInt8.ofNat 32])))))), .mk (some 7) none (.k (.mov (.tmp 56)))]
def T4n6 : XC := .seq (.ops [.mk (some 52) none (.k (.mov (.tmp 7))), .mk (some 53) none (.k (.mov (.tmp 1))), .mk (some 54) none (.k (.app 5 1 1 (.tmp 52) (.tmp 53))), .mk (some 7) none (.k (.mov (.tmp 54)))]) (.ref 5)
def T4n7 : XC := .seq (.ops [.mk (some 50) none (.k (.mov (.tmp 7))), .mk (some 51) none (.k (.app 5 1 1 (.tmp 50) (.const (.string (ByteArray.mk (Array.mk [UInt8.ofNat 32, UInt8.ofNat 9, UInt8.ofNat 59])))))), .mk (some 7) none (.k (.mov (.tmp 51)))]) (.ref 6)
def T4n8 : XC := .ops [.mk (some 57) none (.k (.mov (.tmp 7))), .mk (some 58) none (.k (.mov (.tmp 0))), .mk (some 59) none (.k (.mov (.tmp 8))), .mk (some 60) none (.k (.ixT (.tmp 58) (.tmp 59))), .mk (some 61) none (.k (.buildS 5 1 1 [.int .u8 0] [(0, .tmp 60)])), .mk (some 62) none (.k (.app 5 1 1 (.tmp 57) (.tmp 61))), .mk (some 7) none (.k (.mov (.tmp 62)))]
def T4n9 : XC := .ops [.mk (some 44) none (.k (.mov (.tmp 8))), .mk (some 45) none (.k (.arith .add .i64 (.tmp 44) (.const (.int .i64 1)))), .mk (some 8) none (.k (.mov (.tmp 45)))]
def T4n10 : XC := .seq (.blk 3 (.seq (.ops [.mk (some 46) none (.k (.mov (.tmp 0))), .mk (some 47) none (.k (.mov (.tmp 8))), .mk (some 48) none (.k (.ixT (.tmp 46) (.tmp 47))), .mk (some 49) none (.k (.cmp .eql .u8 (.tmp 48) (.const (.int .u8 10))))]) (.cond (.tmp 49) (.ref 7) (.ref 8)))) (.ref 9)
def T4n11 : XC := .seq (.seq (.ops [.mk (some 40) none (.k (.mov (.tmp 8))), .mk (some 41) none (.k (.mov (.tmp 0))), .mk (some 42) none (.k (.lenT (.tmp 41))), .mk (some 43) none (.k (.cmp .lss .i64 (.tmp 40) (.tmp 42)))]) (.cond (.tmp 43) .skip (.exit 2))) (.ref 10)
def T4n12 : XC := .seq (.ops [.mk (some 76) none (.k (.mov (.tmp 5))), .mk (some 77) none (.k (.mov (.tmp 76))), .mk (some 78) (some (77, true)) (.k (.mov (.tmp 11))), .mk (some 79) (some (77, true)) (.k (.mov (.tmp 14))), .mk (some 80) (some (77, true)) (.k (.cmp .eql .i64 (.tmp 78) (.tmp 79))), .mk (some 81) none (.k (.pick (.tmp 77) (.tmp 80) (.const (.bool false)))), .mk (some 82) none (.k (.mov (.tmp 81))), .mk (some 83) (some (82, true)) (.k (.mov (.tmp 9))), .mk (some 84) (some (82, true)) (.k (.mov (.tmp 12))), .mk (some 85) (some (82, true)) (.call 9 [.tmp 83, .tmp 84]), .mk (some 86) none (.k (.pick (.tmp 82) (.tmp 85) (.const (.bool false)))), .mk (some 4) none (.k (.mov (.tmp 86)))]) .ret
def T4n13 : XC := .seq (.ops [.mk (some 70) none (.k (.mov (.tmp 7))), .mk (some 71) none (.k (.b2s (.tmp 70))), .mk (some 72) none (.call 11 [.tmp 71]), .mk (some 69) none (.k (.mov (.tmp 72))), .mk (some 73) none (.k (.ext (.tmp 69) 0)), .mk (some 74) none (.k (.ext (.tmp 69) 1)), .mk (some 75) none (.k (.ext (.tmp 69) 2)), .mk (some 12) none (.k (.mov (.tmp 73))), .mk (some 13) none (.k (.mov (.tmp 74))), .mk (some 14) none (.k (.mov (.tmp 75)))]) (.ref 12)
def T4n14 : XC := .seq (.ops [.mk (some 64) none (.k (.mov (.tmp 0))), .mk (some 65) none (.call 11 [.tmp 64]), .mk (some 63) none (.k (.mov (.tmp 65))), .mk (some 66) none (.k (.ext (.tmp 63) 0)), .mk (some 67) none (.k (.ext (.tmp 63) 1)), .mk (some 68) none (.k (.ext (.tmp 63) 2)), .mk (some 9) none (.k (.mov (.tmp 66))), .mk (some 10) none (.k (.mov (.tmp 67))), .mk (some 11) none (.k (.mov (.tmp 68)))]) (.ref 13)
def T4n15 : XC := .seq (.seq (.ops [.mk (some 8) none (.k (.mov (.const (.int .i64 0))))]) (.blk 2 (.loop (.ref 11)))) (.ref 14)
def T4n16 : XC := .seq (.ops [.mk (some 7) none (.k (.mov (.const (.slice none 0 0))))]) (.ref 15)
def T4n17 : XC := .seq (.seq (.ops [.mk (some 6) none (.k (.mov (.const (.int .i64 0))))]) (.blk 0 (.loop (.ref 4)))) (.ref 16)
def T4n18 : XC := .seq (.seq (.ops [.mk (some 16) none (.k (.mov (.tmp 0))), .mk (some 17) none (.k (.lenT (.tmp 16))), .mk (some 18) none (.k (.cmp .gtr .i64 (.tmp 17) (.const (.int .i64 2000)))), .mk (some 19) none (.k (.mov (.tmp 18))), .mk (some 20) (some (19, false)) (.k (.mov (.tmp 1))), .mk (some 21) (some (19, false)) (.k (.lenT (.tmp 20))), .mk (some 22) (some (19, false)) (.k (.cmp .gtr .i64 (.tmp 21) (.const (.int .i64 100)))), .mk (some 23) none (.k (.pick (.tmp 19) (.const (.bool true)) (.tmp 22))), .mk (some 24) none (.k (.mov (.tmp 23))), .mk (some 25) (some (24, false)) (.k (.mov (.tmp 5))), .mk (some 26) (some (24, false)) (.k (.not (.tmp 25))), .mk (some 27) none (.k (.pick (.tmp 24) (.const (.bool true)) (.tmp 26)))]) (.cond (.tmp 27) (.ref 0) .skip)) (.ref 17)
def T4n19 : XC := .seq (.ops [.mk (some 15) none (.call 10 []), .mk (some 5) none (.k (.mov (.tmp 15)))]) (.ref 18)
def T4 : Nat → XC
 | 0 => T4n0
 | 1 => T4n1
 | 2 => T4n2
 | 3 => T4n3
 | 4 => T4n4
 | 5 => T4n5
 | 6 => T4n6
 | 7 => T4n7
 | 8 => T4n8
 | 9 => T4n9
 | 10 => T4n10
 | 11 => T4n11
 | 12 => T4n12
 | 13 => T4n13
 | 14 => T4n14
 | 15 => T4n15
 | 16 => T4n16
 | 17 => T4n17
 | 18 => T4n18
 | 19 => T4n19
 | _ => .skip
theorem t4n0 : T4 0 = T4n0 := rfl
theorem t4n1 : T4 1 = T4n1 := rfl
theorem t4n2 : T4 2 = T4n2 := rfl
theorem t4n3 : T4 3 = T4n3 := rfl
theorem t4n4 : T4 4 = T4n4 := rfl
theorem t4n5 : T4 5 = T4n5 := rfl
theorem t4n6 : T4 6 = T4n6 := rfl
theorem t4n7 : T4 7 = T4n7 := rfl
theorem t4n8 : T4 8 = T4n8 := rfl
theorem t4n9 : T4 9 = T4n9 := rfl
theorem t4n10 : T4 10 = T4n10 := rfl
theorem t4n11 : T4 11 = T4n11 := rfl
theorem t4n12 : T4 12 = T4n12 := rfl
theorem t4n13 : T4 13 = T4n13 := rfl
theorem t4n14 : T4 14 = T4n14 := rfl
theorem t4n15 : T4 15 = T4n15 := rfl
theorem t4n16 : T4 16 = T4n16 := rfl
theorem t4n17 : T4 17 = T4n17 := rfl
theorem t4n18 : T4 18 = T4n18 := rfl
theorem t4n19 : T4 19 = T4n19 := rfl
def X4 : XC := .seq (.ops [.mk (some 4) none (.k (.mov (.const (.bool false))))]) (.ref 19)
abbrev K4 : List Nat := [0, 1, 4, 5, 6, 7, 8, 9, 11, 12, 14, 27, 32, 38, 43, 49]
theorem n4 : Tryd.f4.ntmps = 87 := by kernel_rfl
theorem r4 : resT Tryd.f4.results.toList = some [4] := by kernel_rfl
theorem x4 : cmpF Tryd.prog Tryd.f4 = some (expand T4 21 X4) := by kernel_rfl
def T9n0 : XC := .seq (.ops [.mk (some 4) none (.k (.mov (.const (.bool false))))]) .ret
def T9n1 : XC := .seq (.ops [.mk (some 4) none (.k (.mov (.const (.bool false))))]) .ret
def T9n2 : XC := .ops [.mk (some 15) none (.k (.mov (.tmp 5))), .mk (some 16) none (.k (.arith .add .i64 (.tmp 15) (.const (.int .i64 1)))), .mk (some 5) none (.k (.mov (.tmp 16)))]
def T9n3 : XC := .seq (.blk 1 (.seq (.ops [.mk (some 17) none (.k (.mov (.tmp 0))), .mk (some 18) none (.k (.mov (.tmp 5))), .mk (some 19) none (.k (.idx 5 (.tmp 17) (.tmp 18))), .mk (some 20) none (.k (.load [.int .i64, .int .i64, .int .i64, .int .i64, .int .i64] true (.tmp 19))), .mk (some 21) none (.k (.mov (.tmp 1))), .mk (some 22) none (.k (.mov (.tmp 5))), .mk (some 23) none (.k (.idx 5 (.tmp 21) (.tmp 22))), .mk (some 24) none (.k (.load [.int .i64, .int .i64, .int .i64, .int .i64, .int .i64] true (.tmp 23))), .mk (some 25) none (.k (.eqa true [.int .i64, .int .i64, .int .i64, .int .i64, .int .i64] (.tmp 20) (.tmp 24)))]) (.cond (.tmp 25) (.ref 1) .skip))) (.ref 2)
def T9n4 : XC := .seq (.seq (.ops [.mk (some 11) none (.k (.mov (.tmp 5))), .mk (some 12) none (.k (.mov (.tmp 0))), .mk (some 13) none (.k (.lenS (.tmp 12))), .mk (some 14) none (.k (.cmp .lss .i64 (.tmp 11) (.tmp 13)))]) (.cond (.tmp 14) .skip (.exit 0))) (.ref 3)
def T9n5 : XC := .seq (.ops [.mk (some 4) none (.k (.mov (.const (.bool true))))]) .ret
def T9n6 : XC := .seq (.seq (.ops [.mk (some 5) none (.k (.mov (.const (.int .i64 0))))]) (.blk 0 (.loop (.ref 4)))) (.ref 5)
def T9n7 : XC := .seq (.seq (.ops [.mk (some 6) none (.k (.mov (.tmp 0))), .mk (some 7) none (.k (.lenS (.tmp 6))), .mk (some 8) none (.k (.mov (.tmp 1))), .mk (some 9) none (.k (.lenS (.tmp 8))), .mk (some 10) none (.k (.cmp .neq .i64 (.tmp 7) (.tmp 9)))]) (.cond (.tmp 10) (.ref 0) .skip)) (.ref 6)
def T9 : Nat → XC
 | 0 => T9n0
 | 1 => T9n1
 | 2 => T9n2
 | 3 => T9n3
 | 4 => T9n4
 | 5 => T9n5
 | 6 => T9n6
 | 7 => T9n7
 | _ => .skip
theorem t9n0 : T9 0 = T9n0 := rfl
theorem t9n1 : T9 1 = T9n1 := rfl
theorem t9n2 : T9 2 = T9n2 := rfl
theorem t9n3 : T9 3 = T9n3 := rfl
theorem t9n4 : T9 4 = T9n4 := rfl
theorem t9n5 : T9 5 = T9n5 := rfl
theorem t9n6 : T9 6 = T9n6 := rfl
theorem t9n7 : T9 7 = T9n7 := rfl
def X9 : XC := .seq (.ops [.mk (some 4) none (.k (.mov (.const (.bool false))))]) (.ref 7)
abbrev K9 : List Nat := [0, 1, 4, 5, 10, 14, 25]
theorem n9 : Tryd.f9.ntmps = 26 := by kernel_rfl
theorem r9 : resT Tryd.f9.results.toList = some [4] := by kernel_rfl
theorem x9 : cmpF Tryd.prog Tryd.f9 = some (expand T9 9 X9) := by kernel_rfl
end Go.Proofs.YtaiajnehnjnadaaDoor
