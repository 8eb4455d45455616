/- Printed by program: the small code of functions, and that it is theirs. -/
import Derived.Test.YtaiajnehnjnadaaDoorSxStill
import Derived.Test.YtaiajnehnjnadaaDoorProg
import Derived.KernelRfl
set_option linter.unusedSimpArgs false
set_option linter.unusedVariables false
set_option linter.unnecessarySimpa false
namespace Go.Proofs.YtaiajnehnjnadaaDoor
open Go Go.Sx
set_option maxRecDepth 100000
def T5n0 : XC := .seq (.ops [.mk (some 20) none (.k (.mov (.tmp 3))), .mk (some 2) none (.k (.mov (.tmp 20)))]) .ret
def T5n1 : XC := .seq (.ops [.mk (some 2) none (.k (.mov (.const (.bool false))))]) .ret
def T5n2 : XC := .seq (.ops [.mk (some 2) none (.k (.mov (.const (.bool false))))]) .ret
def T5n3 : XC := .seq (.ops [.mk (some 2) none (.k (.mov (.const (.bool false))))]) .ret
def T5n4 : XC := .ops [.mk (some 84) none (.k (.mov (.tmp 11))), .mk (some 85) none (.k (.arith .add .i64 (.tmp 84) (.const (.int .i64 1)))), .mk (some 11) none (.k (.mov (.tmp 85)))]
def T5n5 : XC := .seq (.blk 3 (.seq (.ops [.mk (some 86) none (.k (.mov (.tmp 4))), .mk (some 87) none (.k (.mov (.tmp 11))), .mk (some 88) none (.k (.idx 2 (.tmp 86) (.tmp 87))), .mk (some 89) none (.k (.fld 0 (.tmp 88))), .mk (some 90) none (.k (.load [.str] false (.tmp 89))), .mk (some 91) none (.k (.mov (.tmp 4))), .mk (some 92) none (.k (.mov (.tmp 10))), .mk (some 93) none (.k (.idx 2 (.tmp 91) (.tmp 92))), .mk (some 94) none (.k (.fld 0 (.tmp 93))), .mk (some 95) none (.k (.load [.str] false (.tmp 94))), .mk (some 96) none (.k (.eqs .eql (.tmp 90) (.tmp 95)))]) (.cond (.tmp 96) (.ref 3) .skip))) (.ref 4)
def T5n6 : XC := .seq (.seq (.ops [.mk (some 81) none (.k (.mov (.tmp 11))), .mk (some 82) none (.k (.mov (.tmp 10))), .mk (some 83) none (.k (.cmp .lss .i64 (.tmp 81) (.tmp 82)))]) (.cond (.tmp 83) .skip (.exit 2))) (.ref 5)
def T5n7 : XC := .seq (.ops [.mk (some 11) none (.k (.mov (.const (.int .i64 0))))]) (.blk 2 (.loop (.ref 6)))
def T5n8 : XC := .ops [.mk (some 45) none (.k (.mov (.tmp 10))), .mk (some 46) none (.k (.arith .add .i64 (.tmp 45) (.const (.int .i64 1)))), .mk (some 10) none (.k (.mov (.tmp 46)))]
def T5n9 : XC := .seq (.blk 1 (.seq (.seq (.ops [.mk (some 47) none (.k (.mov (.tmp 4))), .mk (some 48) none (.k (.mov (.tmp 10))), .mk (some 49) none (.k (.idx 2 (.tmp 47) (.tmp 48))), .mk (some 50) none (.k (.fld 1 (.tmp 49))), .mk (some 51) none (.k (.load [.int .i64] false (.tmp 50))), .mk (some 52) none (.k (.cmp .lss .i64 (.tmp 51) (.const (.int .i64 0)))), .mk (some 53) none (.k (.mov (.tmp 52))), .mk (some 54) (some (53, false)) (.k (.mov (.tmp 4))), .mk (some 55) (some (53, false)) (.k (.mov (.tmp 10))), .mk (some 56) (some (53, false)) (.k (.idx 2 (.tmp 54) (.tmp 55))), .mk (some 57) (some (53, false)) (.k (.fld 1 (.tmp 56))), .mk (some 58) (some (53, false)) (.k (.load [.int .i64] false (.tmp 57))), .mk (some 59) (some (53, false)) (.k (.mov (.tmp 7))), .mk (some 60) (some (53, false)) (.k (.lenS (.tmp 59))), .mk (some 61) (some (53, false)) (.k (.cmp .gtr .i64 (.tmp 58) (.tmp 60))), .mk (some 62) none (.k (.pick (.tmp 53) (.const (.bool true)) (.tmp 61))), .mk (some 63) none (.k (.mov (.tmp 62))), .mk (some 64) (some (63, false)) (.k (.mov (.tmp 10))), .mk (some 65) (some (63, false)) (.k (.cmp .gtr .i64 (.tmp 64) (.const (.int .i64 0)))), .mk (some 66) (some (63, false)) (.k (.mov (.tmp 65))), .mk (some 67) (some (66, true)) (.k (.mov (.tmp 4))), .mk (some 68) (some (66, true)) (.k (.mov (.tmp 10))), .mk (some 69) (some (66, true)) (.k (.idx 2 (.tmp 67) (.tmp 68))), .mk (some 70) (some (66, true)) (.k (.fld 1 (.tmp 69))), .mk (some 71) (some (66, true)) (.k (.load [.int .i64] false (.tmp 70))), .mk (some 72) (some (66, true)) (.k (.mov (.tmp 4))), .mk (some 73) (some (66, true)) (.k (.mov (.tmp 10))), .mk (some 74) (some (66, true)) (.k (.arith .sub .i64 (.tmp 73) (.const (.int .i64 1)))), .mk (some 75) (some (66, true)) (.k (.idx 2 (.tmp 72) (.tmp 74))), .mk (some 76) (some (66, true)) (.k (.fld 1 (.tmp 75))), .mk (some 77) (some (66, true)) (.k (.load [.int .i64] false (.tmp 76))), .mk (some 78) (some (66, true)) (.k (.cmp .lss .i64 (.tmp 71) (.tmp 77))), .mk (some 79) (some (63, false)) (.k (.pick (.tmp 66) (.tmp 78) (.const (.bool false)))), .mk (some 80) none (.k (.pick (.tmp 63) (.const (.bool true)) (.tmp 79)))]) (.cond (.tmp 80) (.ref 2) .skip)) (.ref 7))) (.ref 8)
def T5n10 : XC := .seq (.seq (.ops [.mk (some 41) none (.k (.mov (.tmp 10))), .mk (some 42) none (.k (.mov (.tmp 4))), .mk (some 43) none (.k (.lenS (.tmp 42))), .mk (some 44) none (.k (.cmp .lss .i64 (.tmp 41) (.tmp 43)))]) (.cond (.tmp 44) .skip (.exit 0))) (.ref 9)
def T5n11 : XC := .seq (.ops [.mk (some 97) none (.k (.mov (.tmp 3))), .mk (some 2) none (.k (.mov (.tmp 97)))]) .ret
def T5n12 : XC := .seq (.seq (.ops [.mk (some 10) none (.k (.mov (.const (.int .i64 0))))]) (.blk 0 (.loop (.ref 10)))) (.ref 11)
def T5n13 : XC := .seq (.seq (.ops [.mk (some 33) none (.k (.mov (.tmp 6))), .mk (some 34) none (.k (.mov (.tmp 9))), .mk (some 35) none (.k (.cmp .neq .i64 (.tmp 33) (.tmp 34))), .mk (some 36) none (.k (.mov (.tmp 35))), .mk (some 37) (some (36, false)) (.k (.mov (.tmp 5))), .mk (some 38) (some (36, false)) (.k (.mov (.tmp 8))), .mk (some 39) (some (36, false)) (.k (.cmp .neq .i64 (.tmp 37) (.tmp 38))), .mk (some 40) none (.k (.pick (.tmp 36) (.const (.bool true)) (.tmp 39)))]) (.cond (.tmp 40) (.ref 1) .skip)) (.ref 12)
def T5n14 : XC := .seq (.ops [.mk (some 28) none (.k (.mov (.tmp 0))), .mk (some 29) none (.call 11 [.tmp 28]), .mk (some 27) none (.k (.mov (.tmp 29))), .mk (some 30) none (.k (.ext (.tmp 27) 0)), .mk (some 31) none (.k (.ext (.tmp 27) 1)), .mk (some 32) none (.k (.ext (.tmp 27) 2)), .mk (some 7) none (.k (.mov (.tmp 30))), .mk (some 8) none (.k (.mov (.tmp 31))), .mk (some 9) none (.k (.mov (.tmp 32)))]) (.ref 13)
def T5n15 : XC := .seq (.ops [.mk (some 22) none (.k (.mov (.tmp 0))), .mk (some 23) none (.call 12 [.tmp 22]), .mk (some 21) none (.k (.mov (.tmp 23))), .mk (some 24) none (.k (.ext (.tmp 21) 0)), .mk (some 25) none (.k (.ext (.tmp 21) 1)), .mk (some 26) none (.k (.ext (.tmp 21) 2)), .mk (some 4) none (.k (.mov (.tmp 24))), .mk (some 5) none (.k (.mov (.tmp 25))), .mk (some 6) none (.k (.mov (.tmp 26)))]) (.ref 14)
def T5n16 : XC := .seq (.seq (.ops [.mk (some 13) none (.k (.mov (.tmp 0))), .mk (some 14) none (.k (.lenT (.tmp 13))), .mk (some 15) none (.k (.cmp .gtr .i64 (.tmp 14) (.const (.int .i64 3000)))), .mk (some 16) none (.k (.mov (.tmp 15))), .mk (some 17) (some (16, false)) (.k (.mov (.tmp 3))), .mk (some 18) (some (16, false)) (.k (.not (.tmp 17))), .mk (some 19) none (.k (.pick (.tmp 16) (.const (.bool true)) (.tmp 18)))]) (.cond (.tmp 19) (.ref 0) .skip)) (.ref 15)
def T5n17 : XC := .seq (.ops [.mk (some 12) none (.call 10 []), .mk (some 3) none (.k (.mov (.tmp 12)))]) (.ref 16)
def T5 : Nat → XC
 | 0 => T5n0
 | 1 => T5n1
 | 2 => T5n2
 | 3 => T5n3
 | 4 => T5n4
 | 5 => T5n5
 | 6 => T5n6
 | 7 => T5n7
 | 8 => T5n8
 | 9 => T5n9
 | 10 => T5n10
 | 11 => T5n11
 | 12 => T5n12
 | 13 => T5n13
 | 14 => T5n14
 | 15 => T5n15
 | 16 => T5n16
 | 17 => T5n17
 | _ => .skip
theorem t5n0 : T5 0 = T5n0 := rfl
theorem t5n1 : T5 1 = T5n1 := rfl
theorem t5n2 : T5 2 = T5n2 := rfl
theorem t5n3 : T5 3 = T5n3 := rfl
theorem t5n4 : T5 4 = T5n4 := rfl
theorem t5n5 : T5 5 = T5n5 := rfl
theorem t5n6 : T5 6 = T5n6 := rfl
theorem t5n7 : T5 7 = T5n7 := rfl
theorem t5n8 : T5 8 = T5n8 := rfl
theorem t5n9 : T5 9 = T5n9 := rfl
theorem t5n10 : T5 10 = T5n10 := rfl
theorem t5n11 : T5 11 = T5n11 := rfl
theorem t5n12 : T5 12 = T5n12 := rfl
theorem t5n13 : T5 13 = T5n13 := rfl
theorem t5n14 : T5 14 = T5n14 := rfl
theorem t5n15 : T5 15 = T5n15 := rfl
theorem t5n16 : T5 16 = T5n16 := rfl
theorem t5n17 : T5 17 = T5n17 := rfl
def X5 : XC := .seq (.ops [.mk (some 2) none (.k (.mov (.const (.bool false))))]) (.ref 17)
abbrev K5 : List Nat := [0, 2, 3, 4, 5, 6, 7, 8, 9, 10, 11, 19, 40, 44, 80, 83, 96]
theorem n5 : Tryd.f5.ntmps = 98 := by kernel_rfl
theorem r5 : resT Tryd.f5.results.toList = some [2] := by kernel_rfl
theorem x5 : cmpF Tryd.prog Tryd.f5 = some (expand T5 19 X5) := by kernel_rfl
def T10n0 : XC := .seq (.ops [.mk (some 9) none (.k (.mov (.tmp 3))), .mk (some 10) none (.k (.cmp .eql .i64 (.tmp 9) (.const (.int .i64 0)))), .mk (some 11) none (.k (.mov (.tmp 10))), .mk (some 12) (some (11, true)) (.k (.mov (.tmp 2))), .mk (some 13) (some (11, true)) (.k (.cmp .eql .i64 (.tmp 12) (.const (.int .i64 0)))), .mk (some 14) none (.k (.pick (.tmp 11) (.tmp 13) (.const (.bool false)))), .mk (some 15) none (.k (.mov (.tmp 14))), .mk (some 16) (some (15, true)) (.k (.mov (.tmp 1))), .mk (some 17) (some (15, true)) (.k (.lenS (.tmp 16))), .mk (some 18) (some (15, true)) (.k (.cmp .eql .i64 (.tmp 17) (.const (.int .i64 3)))), .mk (some 19) none (.k (.pick (.tmp 15) (.tmp 18) (.const (.bool false)))), .mk (some 20) none (.k (.mov (.tmp 19))), .mk (some 21) (some (20, true)) (.k (.mov (.tmp 1))), .mk (some 22) (some (20, true)) (.k (.idx 5 (.tmp 21) (.const (.int .i64 1)))), .mk (some 23) (some (20, true)) (.k (.load [.int .i64, .int .i64, .int .i64, .int .i64, .int .i64] true (.tmp 22))), .mk (some 24) (some (20, true)) (.k (.build [.int .i64 0, .int .i64 0, .int .i64 0, .int .i64 0, .int .i64 0] [(0, 1, .const (.int .i64 14)), (1, 1, .const (.int .i64 1))])), .mk (some 25) (some (20, true)) (.k (.eqa false [.int .i64, .int .i64, .int .i64, .int .i64, .int .i64] (.tmp 23) (.tmp 24))), .mk (some 26) none (.k (.pick (.tmp 20) (.tmp 25) (.const (.bool false)))), .mk (some 27) none (.k (.mov (.tmp 26))), .mk (some 28) (some (27, true)) (.k (.mov (.tmp 1))), .mk (some 29) (some (27, true)) (.k (.idx 5 (.tmp 28) (.const (.int .i64 2)))), .mk (some 30) (some (27, true)) (.k (.fld 0 (.tmp 29))), .mk (some 31) (some (27, true)) (.k (.load [.int .i64] false (.tmp 30))), .mk (some 32) (some (27, true)) (.k (.cmp .eql .i64 (.tmp 31) (.const (.int .i64 1)))), .mk (some 33) none (.k (.pick (.tmp 27) (.tmp 32) (.const (.bool false)))), .mk (some 0) none (.k (.mov (.tmp 33)))]) .ret
def T10n1 : XC := .seq (.ops [.mk (some 5) none (.call 11 [.const (.string (ByteArray.mk (Array.mk [UInt8.ofNat 108, UInt8.ofNat 111, UInt8.ofNat 111, UInt8.ofNat 112, UInt8.ofNat 58, UInt8.ofNat 10, UInt8.ofNat 32, UInt8.ofNat 108, UInt8.ofNat 111, UInt8.ofNat 97, UInt8.ofNat 100, UInt8.ofNat 32, UInt8.ofNat 49, UInt8.ofNat 32, UInt8.ofNat 48, UInt8.ofNat 32, UInt8.ofNat 56, UInt8.ofNat 10, UInt8.ofNat 32, UInt8.ofNat 101, UInt8.ofNat 113, UInt8.ofNat 32, UInt8.ofNat 49, UInt8.ofNat 32, UInt8.ofNat 48, UInt8.ofNat 32, UInt8.ofNat 108, UInt8.ofNat 111, UInt8.ofNat 111, UInt8.ofNat 112, UInt8.ofNat 32, UInt8.ofNat 59, UInt8.ofNat 32, UInt8.ofNat 97, UInt8.ofNat 103, UInt8.ofNat 97, UInt8.ofNat 105, UInt8.ofNat 110, UInt8.ofNat 10, UInt8.ofNat 104, UInt8.ofNat 97, UInt8.ofNat 108, UInt8.ofNat 116])))]), .mk (some 4) none (.k (.mov (.tmp 5))), .mk (some 6) none (.k (.ext (.tmp 4) 0)), .mk (some 7) none (.k (.ext (.tmp 4) 1)), .mk (some 8) none (.k (.ext (.tmp 4) 2)), .mk (some 1) none (.k (.mov (.tmp 6))), .mk (some 2) none (.k (.mov (.tmp 7))), .mk (some 3) none (.k (.mov (.tmp 8)))]) (.ref 0)
def T10 : Nat → XC
 | 0 => T10n0
 | 1 => T10n1
 | _ => .skip
theorem t10n0 : T10 0 = T10n0 := rfl
theorem t10n1 : T10 1 = T10n1 := rfl
def X10 : XC := .seq (.ops [.mk (some 0) none (.k (.mov (.const (.bool false))))]) (.ref 1)
abbrev K10 : List Nat := [0, 1, 2, 3]
theorem n10 : Tryd.f10.ntmps = 34 := by kernel_rfl
theorem r10 : resT Tryd.f10.results.toList = some [0] := by kernel_rfl
theorem x10 : cmpF Tryd.prog Tryd.f10 = some (expand T10 3 X10) := by kernel_rfl
def T12n0 : XC := .seq (.ops [.mk (some 21) none (.k (.mov (.tmp 8))), .mk (some 2) none (.k (.mov (.const (.slice none 0 0)))), .mk (some 3) none (.k (.mov (.tmp 21))), .mk (some 4) none (.k (.mov (.const (.int .i64 150))))]) .ret
def T12n1 : XC := .seq (.ops [.mk (some 19) none (.k (.mov (.tmp 8))), .mk (some 20) none (.k (.cmp .gtr .i64 (.tmp 19) (.const (.int .i64 0))))]) (.cond (.tmp 20) (.ref 0) .skip)
def T12n2 : XC := .seq (.ops [.mk (some 22) none (.k (.mov (.tmp 6))), .mk (some 2) none (.k (.mov (.tmp 22))), .mk (some 3) none (.k (.mov (.const (.int .i64 0)))), .mk (some 4) none (.k (.mov (.const (.int .i64 0))))]) .ret
def T12n3 : XC := .seq (.seq (.ops [.mk (some 15) none (.k (.mov (.tmp 0))), .mk (some 16) none (.k (.mov (.tmp 5))), .mk (some 17) none (.k (.mov (.tmp 7))), .mk (some 18) none (.call 24 [.tmp 15, .tmp 16, .tmp 17]), .mk (some 8) none (.k (.mov (.tmp 18)))]) (.ref 1)) (.ref 2)
def T12n4 : XC := .seq (.ops [.mk (some 10) none (.k (.mov (.tmp 0))), .mk (some 11) none (.call 23 [.tmp 10]), .mk (some 9) none (.k (.mov (.tmp 11))), .mk (some 12) none (.k (.ext (.tmp 9) 0)), .mk (some 13) none (.k (.ext (.tmp 9) 1)), .mk (some 14) none (.k (.ext (.tmp 9) 2)), .mk (some 5) none (.k (.mov (.tmp 12))), .mk (some 6) none (.k (.mov (.tmp 13))), .mk (some 7) none (.k (.mov (.tmp 14)))]) (.ref 3)
def T12 : Nat → XC
 | 0 => T12n0
 | 1 => T12n1
 | 2 => T12n2
 | 3 => T12n3
 | 4 => T12n4
 | _ => .skip
theorem t12n0 : T12 0 = T12n0 := rfl
theorem t12n1 : T12 1 = T12n1 := rfl
theorem t12n2 : T12 2 = T12n2 := rfl
theorem t12n3 : T12 3 = T12n3 := rfl
theorem t12n4 : T12 4 = T12n4 := rfl
def X12 : XC := .seq (.ops [.mk (some 2) none (.k (.mov (.const (.slice none 0 0)))), .mk (some 3) none (.k (.mov (.const (.int .i64 0)))), .mk (some 4) none (.k (.mov (.const (.int .i64 0))))]) (.ref 4)
abbrev K12 : List Nat := [0, 2, 3, 4, 5, 6, 7, 8, 20]
theorem n12 : Tryd.f12.ntmps = 23 := by kernel_rfl
theorem r12 : resT Tryd.f12.results.toList = some [2, 3, 4] := by kernel_rfl
theorem x12 : cmpF Tryd.prog Tryd.f12 = some (expand T12 6 X12) := by kernel_rfl
end Go.Proofs.YtaiajnehnjnadaaDoor
