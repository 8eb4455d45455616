/- Printed by program: the small code of functions, and that it is theirs. -/
import Derived.Test.YtlbiogokpadaoaaGreatDoorSxStill
import Derived.Test.YtlbiogokpadaoaaGreatDoorProg
import Derived.KernelRfl
set_option linter.unusedSimpArgs false
set_option linter.unusedVariables false
set_option linter.unnecessarySimpa false
namespace Go.Proofs.YtlbiogokpadaoaaGreatDoor
open Go Go.Sx
set_option maxRecDepth 100000
def T20n0 : XC := .seq (.ops [.mk (some 1) none (.k (.buildS 9 1 1 [.string (ByteArray.mk (Array.mk []))] [(0, .const (.string (ByteArray.mk (Array.mk [UInt8.ofNat 117, UInt8.ofNat 110, UInt8.ofNat 115, UInt8.ofNat 101, UInt8.ofNat 116, UInt8.ofNat 32, UInt8.ofNat 97, UInt8.ofNat 116, UInt8.ofNat 32, UInt8.ofNat 49]))))])), .mk (some 2) none (.call 36 [.const (.string (ByteArray.mk (Array.mk [UInt8.ofNat 115, UInt8.ofNat 101, UInt8.ofNat 116, UInt8.ofNat 32, UInt8.ofNat 49, UInt8.ofNat 32, UInt8.ofNat 53, UInt8.ofNat 10, UInt8.ofNat 115, UInt8.ofNat 116, UInt8.ofNat 111, UInt8.ofNat 114, UInt8.ofNat 101, UInt8.ofNat 32, UInt8.ofNat 49, UInt8.ofNat 32, UInt8.ofNat 48, UInt8.ofNat 32, UInt8.ofNat 49, UInt8.ofNat 10, UInt8.ofNat 104, UInt8.ofNat 97, UInt8.ofNat 108, UInt8.ofNat 116]))), .tmp 1]), .mk (some 3) none (.k (.mov (.tmp 2))), .mk (some 4) (some (3, true)) (.k (.buildS 9 2 1 [.string (ByteArray.mk (Array.mk []))] [(0, .const (.string (ByteArray.mk (Array.mk [UInt8.ofNat 98, UInt8.ofNat 101, UInt8.ofNat 103, UInt8.ofNat 105, UInt8.ofNat 110, UInt8.ofNat 32, UInt8.ofNat 97, UInt8.ofNat 116, UInt8.ofNat 32, UInt8.ofNat 49])))), (1, .const (.string (ByteArray.mk (Array.mk [UInt8.ofNat 110, UInt8.ofNat 101, UInt8.ofNat 118, UInt8.ofNat 101, UInt8.ofNat 114, UInt8.ofNat 32, UInt8.ofNat 97, UInt8.ofNat 116, UInt8.ofNat 32, UInt8.ofNat 50]))))])), .mk (some 5) (some (3, true)) (.call 36 [.const (.string (ByteArray.mk (Array.mk [UInt8.ofNat 98, UInt8.ofNat 101, UInt8.ofNat 103, UInt8.ofNat 105, UInt8.ofNat 110, UInt8.ofNat 10, UInt8.ofNat 98, UInt8.ofNat 101, UInt8.ofNat 103, UInt8.ofNat 105, UInt8.ofNat 110, UInt8.ofNat 10, UInt8.ofNat 101, UInt8.ofNat 110, UInt8.ofNat 100]))), .tmp 4]), .mk (some 6) none (.k (.pick (.tmp 3) (.tmp 5) (.const (.bool false)))), .mk (some 0) none (.k (.mov (.tmp 6)))]) .ret
def T20 : Nat → XC
 | 0 => T20n0
 | _ => .skip
theorem t20n0 : T20 0 = T20n0 := rfl
def X20 : XC := .seq (.ops [.mk (some 0) none (.k (.mov (.const (.bool false))))]) (.ref 0)
abbrev K20 : List Nat := [0]
theorem n20 : Tryz.f20.ntmps = 7 := by kernel_rfl
theorem r20 : resT Tryz.f20.results.toList = some [0] := by kernel_rfl
theorem x20 : cmpF Tryz.prog Tryz.f20 = some (expand T20 2 X20) := by kernel_rfl
def T36n0 : XC := .seq (.ops [.mk (some 4) none (.k (.mov (.const (.bool false))))]) .ret
def T36n1 : XC := .seq (.ops [.mk (some 4) none (.k (.mov (.const (.bool false))))]) .ret
def T36n2 : XC := .seq (.ops [.mk (some 46) none (.k (.mov (.tmp 11))), .mk (some 47) none (.k (.mov (.tmp 1))), .mk (some 48) none (.k (.mov (.tmp 10))), .mk (some 49) none (.k (.idx 1 (.tmp 47) (.tmp 48))), .mk (some 50) none (.k (.load [.str] false (.tmp 49))), .mk (some 51) none (.k (.eqs .neq (.tmp 46) (.tmp 50)))]) (.cond (.tmp 51) (.ref 1) .skip)
def T36n3 : XC := .seq (.ops [.mk (some 41) none (.k (.mov (.tmp 8))), .mk (some 42) none (.k (.mov (.tmp 10))), .mk (some 43) none (.k (.idx 2 (.tmp 41) (.tmp 42))), .mk (some 44) none (.k (.load [.int .i64, .int .i64] true (.tmp 43))), .mk (some 45) none (.call 70 [.tmp 44]), .mk (some 11) none (.k (.mov (.tmp 45)))]) (.ref 2)
def T36n4 : XC := .seq (.blk 1 (.seq (.ops [.mk (some 40) none (.k (.mov (.tmp 38))), .mk (some 10) none (.k (.mov (.tmp 40)))]) (.ref 3))) (.ops [.mk (some 52) none (.k (.arith .add .i64 (.tmp 38) (.const (.int .i64 1)))), .mk (some 38) none (.k (.mov (.tmp 52)))])
def T36n5 : XC := .seq (.cond (.tmp 39) .skip (.exit 0)) (.ref 4)
def T36n6 : XC := .seq (.ops [.mk (some 39) none (.k (.cmp .lss .i64 (.tmp 38) (.tmp 37)))]) (.ref 5)
def T36n7 : XC := .seq (.ops [.mk (some 4) none (.k (.mov (.const (.bool true))))]) .ret
def T36n8 : XC := .seq (.seq (.ops [.mk (some 36) none (.k (.mov (.tmp 8))), .mk (some 37) none (.k (.lenS (.tmp 36))), .mk (some 38) none (.k (.mov (.const (.int .i64 0))))]) (.blk 0 (.loop (.ref 6)))) (.ref 7)
def T36n9 : XC := .seq (.seq (.ops [.mk (some 23) none (.k (.mov (.tmp 7))), .mk (some 24) none (.k (.cmp .neq .i64 (.tmp 23) (.const (.int .i64 0)))), .mk (some 25) none (.k (.mov (.tmp 24))), .mk (some 26) (some (25, false)) (.k (.mov (.tmp 9))), .mk (some 27) (some (25, false)) (.k (.cmp .neq .i64 (.tmp 26) (.const (.int .i64 0)))), .mk (some 28) none (.k (.pick (.tmp 25) (.const (.bool true)) (.tmp 27))), .mk (some 29) none (.k (.mov (.tmp 28))), .mk (some 30) (some (29, false)) (.k (.mov (.tmp 8))), .mk (some 31) (some (29, false)) (.k (.lenS (.tmp 30))), .mk (some 32) (some (29, false)) (.k (.mov (.tmp 1))), .mk (some 33) (some (29, false)) (.k (.lenS (.tmp 32))), .mk (some 34) (some (29, false)) (.k (.cmp .neq .i64 (.tmp 31) (.tmp 33))), .mk (some 35) none (.k (.pick (.tmp 29) (.const (.bool true)) (.tmp 34)))]) (.cond (.tmp 35) (.ref 0) .skip)) (.ref 8)
def T36n10 : XC := .seq (.ops [.mk (some 19) none (.k (.mov (.tmp 5))), .mk (some 20) none (.call 22 [.tmp 19]), .mk (some 18) none (.k (.mov (.tmp 20))), .mk (some 21) none (.k (.ext (.tmp 18) 0)), .mk (some 22) none (.k (.ext (.tmp 18) 1)), .mk (some 8) none (.k (.mov (.tmp 21))), .mk (some 9) none (.k (.mov (.tmp 22)))]) (.ref 9)
def T36n11 : XC := .seq (.ops [.mk (some 13) none (.k (.mov (.tmp 0))), .mk (some 14) none (.call 66 [.tmp 13]), .mk (some 12) none (.k (.mov (.tmp 14))), .mk (some 15) none (.k (.ext (.tmp 12) 0)), .mk (some 16) none (.k (.ext (.tmp 12) 1)), .mk (some 17) none (.k (.ext (.tmp 12) 2)), .mk (some 5) none (.k (.mov (.tmp 15))), .mk (some 6) none (.k (.mov (.tmp 16))), .mk (some 7) none (.k (.mov (.tmp 17)))]) (.ref 10)
def T36 : Nat → XC
 | 0 => T36n0
 | 1 => T36n1
 | 2 => T36n2
 | 3 => T36n3
 | 4 => T36n4
 | 5 => T36n5
 | 6 => T36n6
 | 7 => T36n7
 | 8 => T36n8
 | 9 => T36n9
 | 10 => T36n10
 | 11 => T36n11
 | _ => .skip
theorem t36n0 : T36 0 = T36n0 := rfl
theorem t36n1 : T36 1 = T36n1 := rfl
theorem t36n2 : T36 2 = T36n2 := rfl
theorem t36n3 : T36 3 = T36n3 := rfl
theorem t36n4 : T36 4 = T36n4 := rfl
theorem t36n5 : T36 5 = T36n5 := rfl
theorem t36n6 : T36 6 = T36n6 := rfl
theorem t36n7 : T36 7 = T36n7 := rfl
theorem t36n8 : T36 8 = T36n8 := rfl
theorem t36n9 : T36 9 = T36n9 := rfl
theorem t36n10 : T36 10 = T36n10 := rfl
theorem t36n11 : T36 11 = T36n11 := rfl
def X36 : XC := .seq (.ops [.mk (some 4) none (.k (.mov (.const (.bool false))))]) (.ref 11)
abbrev K36 : List Nat := [0, 1, 4, 5, 7, 8, 9, 10, 11, 35, 37, 38, 39, 51]
theorem n36 : Tryz.f36.ntmps = 53 := by kernel_rfl
theorem r36 : resT Tryz.f36.results.toList = some [4] := by kernel_rfl
theorem x36 : cmpF Tryz.prog Tryz.f36 = some (expand T36 13 X36) := by kernel_rfl
def T70n0 : XC := .ops [.mk (some 14) none (.k (.fld 0 (.tmp 1))), .mk (some 15) none (.k (.load [.int .i64] false (.tmp 14))), .mk (some 16) none (.k (.idxA 9 1 (.global 1) (.tmp 15))), .mk (some 17) none (.k (.load [.str] false (.tmp 16))), .mk (some 3) none (.k (.mov (.tmp 17)))]
def T70n1 : XC := .seq (.ops [.mk (some 18) none (.k (.mov (.tmp 3))), .mk (some 19) none (.k (.cat (.tmp 18) (.const (.string (ByteArray.mk (Array.mk [UInt8.ofNat 32, UInt8.ofNat 97, UInt8.ofNat 116, UInt8.ofNat 32])))))), .mk (some 20) none (.k (.fld 1 (.tmp 1))), .mk (some 21) none (.k (.load [.int .i64] false (.tmp 20))), .mk (some 22) none (.call 101 [.tmp 21]), .mk (some 23) none (.k (.cat (.tmp 19) (.tmp 22))), .mk (some 2) none (.k (.mov (.tmp 23)))]) .ret
def T70n2 : XC := .seq (.seq (.ops [.mk (some 6) none (.k (.fld 0 (.tmp 1))), .mk (some 7) none (.k (.load [.int .i64] false (.tmp 6))), .mk (some 8) none (.k (.cmp .gtr .i64 (.tmp 7) (.const (.int .i64 0)))), .mk (some 9) none (.k (.mov (.tmp 8))), .mk (some 10) (some (9, true)) (.k (.fld 0 (.tmp 1))), .mk (some 11) (some (9, true)) (.k (.load [.int .i64] false (.tmp 10))), .mk (some 12) (some (9, true)) (.k (.cmp .lss .i64 (.tmp 11) (.const (.int .i64 9)))), .mk (some 13) none (.k (.pick (.tmp 9) (.tmp 12) (.const (.bool false))))]) (.cond (.tmp 13) (.ref 0) .skip)) (.ref 1)
def T70n3 : XC := .seq (.ops [.mk (some 4) none (.k (.idxA 9 1 (.global 1) (.const (.int .i64 0)))), .mk (some 5) none (.k (.load [.str] false (.tmp 4))), .mk (some 3) none (.k (.mov (.tmp 5)))]) (.ref 2)
def T70 : Nat → XC
 | 0 => T70n0
 | 1 => T70n1
 | 2 => T70n2
 | 3 => T70n3
 | _ => .skip
theorem t70n0 : T70 0 = T70n0 := rfl
theorem t70n1 : T70 1 = T70n1 := rfl
theorem t70n2 : T70 2 = T70n2 := rfl
theorem t70n3 : T70 3 = T70n3 := rfl
def X70 : XC := .seq (.ops [.mk (some 1) none (.k (.box 46 2 (.tmp 0))), .mk (some 2) none (.k (.mov (.const (.string (ByteArray.mk (Array.mk []))))))]) (.ref 3)
abbrev K70 : List Nat := [0, 1, 2, 3, 13]
theorem n70 : Tryz.f70.ntmps = 24 := by kernel_rfl
theorem r70 : resT Tryz.f70.results.toList = some [2] := by kernel_rfl
theorem x70 : cmpF Tryz.prog Tryz.f70 = some (expand T70 5 X70) := by kernel_rfl
end Go.Proofs.YtlbiogokpadaoaaGreatDoor
