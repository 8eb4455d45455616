/- Printed by program: the small code of functions, and that it is theirs. -/
import Derived.Test.YtaiajnehnjnadaaDoorSxStill
import Derived.Test.YtaiajnehnjnadaaDoorProg
import Derived.KernelRfl
set_option linter.unusedSimpArgs false
set_option linter.unusedVariables false
set_option linter.unnecessarySimpa false
namespace Go.Proofs.YtaiajnehnjnadaaDoor
open Go Go.Sx
set_option maxRecDepth 100000
def T10n0 : XC := .seq (.ops [.mk (some 9) none (.k (.mov (.tmp 3))), .mk (some 10) none (.k (.cmp .eql .i64 (.tmp 9) (.const (.int .i64 0)))), .mk (some 11) none (.k (.mov (.tmp 10))), .mk (some 12) (some (11, true)) (.k (.mov (.tmp 2))), .mk (some 13) (some (11, true)) (.k (.cmp .eql .i64 (.tmp 12) (.const (.int .i64 0)))), .mk (some 14) none (.k (.pick (.tmp 11) (.tmp 13) (.const (.bool false)))), .mk (some 15) none (.k (.mov (.tmp 14))), .mk (some 16) (some (15, true)) (.k (.mov (.tmp 1))), .mk (some 17) (some (15, true)) (.k (.lenS (.tmp 16))), .mk (some 18) (some (15, true)) (.k (.cmp .eql .i64 (.tmp 17) (.const (.int .i64 3)))), .mk (some 19) none (.k (.pick (.tmp 15) (.tmp 18) (.const (.bool false)))), .mk (some 20) none (.k (.mov (.tmp 19))), .mk (some 21) (some (20, true)) (.k (.mov (.tmp 1))), .mk (some 22) (some (20, true)) (.k (.idx 5 (.tmp 21) (.const (.int .i64 1)))), .mk (some 23) (some (20, true)) (.k (.load [.int .i64, .int .i64, .int .i64, .int .i64, .int .i64] true (.tmp 22))), .mk (some 24) (some (20, true)) (.k (.build [.int .i64 0, .int .i64 0, .int .i64 0, .int .i64 0, .int .i64 0] [(0, 1, .const (.int .i64 14)), (1, 1, .const (.int .i64 1))])), .mk (some 25) (some (20, true)) (.k (.eqa false [.int .i64, .int .i64, .int .i64, .int .i64, .int .i64] (.tmp 23) (.tmp 24))), .mk (some 26) none (.k (.pick (.tmp 20) (.tmp 25) (.const (.bool false)))), .mk (some 27) none (.k (.mov (.tmp 26))), .mk (some 28) (some (27, true)) (.k (.mov (.tmp 1))), .mk (some 29) (some (27, true)) (.k (.idx 5 (.tmp 28) (.const (.int .i64 2)))), .mk (some 30) (some (27, true)) (.k (.fld 0 (.tmp 29))), .mk (some 31) (some (27, true)) (.k (.load [.int .i64] false (.tmp 30))), .mk (some 32) (some (27, true)) (.k (.cmp .eql .i64 (.tmp 31) (.const (.int .i64 1)))), .mk (some 33) none (.k (.pick (.tmp 27) (.tmp 32) (.const (.bool false)))), .mk (some 0) none (.k (.mov (.tmp 33)))]) .ret
def T10n1 : XC := .seq (.ops [.mk (some 5) none (.call 11 [.const (.string (ByteArray.mk (Array.mk [UInt8.ofNat 108, UInt8.ofNat 111, UInt8.ofNat 111, UInt8.ofNat 112, UInt8.ofNat 58, UInt8.ofNat 10, UInt8.ofNat 32, UInt8.ofNat 108, UInt8.ofNat 111, UInt8.ofNat 97, UInt8.ofNat 100, UInt8.ofNat 32, UInt8.ofNat 49, UInt8.ofNat 32, UInt8.ofNat 48, UInt8.ofNat 32, UInt8.ofNat 56, UInt8.ofNat 10, UInt8.ofNat 32, UInt8.ofNat 101, UInt8.ofNat 113, UInt8.ofNat 32, UInt8.ofNat 49, UInt8.ofNat 32, UInt8.ofNat 48, UInt8.ofNat 32, UInt8.ofNat 108, UInt8.ofNat 111, UInt8.ofNat 111, UInt8.ofNat 112, UInt8.ofNat 32, UInt8.ofNat 59, UInt8.ofNat 32, UInt8.ofNat 97, UInt8.ofNat 103, UInt8.ofNat 97, UInt8.ofNat 105, UInt8.ofNat 110, UInt8.ofNat 10, UInt8.ofNat 104, UInt8.ofNat 97, UInt8.ofNat 108, UInt8.ofNat 116])))]), .mk (some 4) none (.k (.mov (.tmp 5))), .mk (some 6) none (.k (.ext (.tmp 4) 0)), .mk (some 7) none (.k (.ext (.tmp 4) 1)), .mk (some 8) none (.k (.ext (.tmp 4) 2)), .mk (some 1) none (.k (.mov (.tmp 6))), .mk (some 2) none (.k (.mov (.tmp 7))), .mk (some 3) none (.k (.mov (.tmp 8)))]) (.ref 0)
def T10 : Nat → XC
 | 0 => T10n0
 | 1 => T10n1
 | _ => .skip
theorem t10n0 : T10 0 = T10n0 := rfl
theorem t10n1 : T10 1 = T10n1 := rfl
def X10 : XC := .seq (.ops [.mk (some 0) none (.k (.mov (.const (.bool false))))]) (.ref 1)
abbrev K10 : List Nat := [0, 1, 2, 3]
theorem n10 : Tryd.f10.ntmps = 34 := by kernel_rfl
theorem r10 : resT Tryd.f10.results.toList = some [0] := by kernel_rfl
theorem x10 : cmpF Tryd.prog Tryd.f10 = some (expand T10 3 X10) := by kernel_rfl
end Go.Proofs.YtaiajnehnjnadaaDoor
