/- Printed by program: the small code of functions, and that it is theirs. -/
import Derived.Test.YtaiajnehnjnadaaDoorSxStill
import Derived.Test.YtaiajnehnjnadaaDoorProg
import Derived.KernelRfl
set_option linter.unusedSimpArgs false
set_option linter.unusedVariables false
set_option linter.unnecessarySimpa false
namespace Go.Proofs.YtaiajnehnjnadaaDoor
open Go Go.Sx
set_option maxRecDepth 100000
def T26n0 : XC := .seq (.ops [.mk (some 2) none (.k (.mov (.const (.bool false))))]) .ret
def T26n1 : XC := .seq (.ops [.mk (some 24) none (.k (.mov (.tmp 3))), .mk (some 25) none (.k (.mov (.tmp 5))), .mk (some 26) none (.k (.ixT (.const (.string (ByteArray.mk (Array.mk [UInt8.ofNat 65, UInt8.ofNat 66, UInt8.ofNat 67])))) (.tmp 25))), .mk (some 27) none (.call 42 [.tmp 24, .tmp 26]), .mk (some 28) none (.k (.cmp .geq .i64 (.tmp 27) (.const (.int .i64 0)))), .mk (some 29) none (.k (.mov (.tmp 28))), .mk (some 30) (some (29, true)) (.k (.mov (.tmp 6))), .mk (some 31) (some (29, true)) (.k (.cmp .lss .i64 (.tmp 30) (.const (.int .i64 0)))), .mk (some 32) (some (29, true)) (.k (.mov (.tmp 31))), .mk (some 33) (some (32, false)) (.k (.mov (.tmp 6))), .mk (some 34) (some (32, false)) (.k (.cmp .geq .i64 (.tmp 33) (.const (.int .i64 8)))), .mk (some 35) (some (29, true)) (.k (.pick (.tmp 32) (.const (.bool true)) (.tmp 34))), .mk (some 36) none (.k (.pick (.tmp 29) (.tmp 35) (.const (.bool false))))]) (.cond (.tmp 36) (.ref 0) .skip)
def T26n2 : XC := .seq (.blk 1 (.seq (.ops [.mk (some 22) none (.k (.mov (.tmp 20))), .mk (some 23) none (.k (.ixA 3 1 false (.tmp 19) (.tmp 20))), .mk (some 5) none (.k (.mov (.tmp 22))), .mk (some 6) none (.k (.mov (.tmp 23)))]) (.ref 1))) (.ops [.mk (some 37) none (.k (.arith .add .i64 (.tmp 20) (.const (.int .i64 1)))), .mk (some 20) none (.k (.mov (.tmp 37)))])
def T26n3 : XC := .seq (.cond (.tmp 21) .skip (.exit 0)) (.ref 2)
def T26n4 : XC := .seq (.ops [.mk (some 21) none (.k (.cmp .lss .i64 (.tmp 20) (.const (.int .i64 3))))]) (.ref 3)
def T26n5 : XC := .seq (.ops [.mk (some 38) none (.k (.mov (.tmp 4))), .mk (some 2) none (.k (.mov (.tmp 38)))]) .ret
def T26n6 : XC := .seq (.seq (.ops [.mk (some 13) none (.k (.fld 1 (.tmp 1))), .mk (some 14) none (.k (.load [.int .i64] false (.tmp 13))), .mk (some 15) none (.k (.fld 2 (.tmp 1))), .mk (some 16) none (.k (.load [.int .i64] false (.tmp 15))), .mk (some 17) none (.k (.fld 3 (.tmp 1))), .mk (some 18) none (.k (.load [.int .i64] false (.tmp 17))), .mk (some 19) none (.k (.build [.int .i64 0, .int .i64 0, .int .i64 0] [(0, 1, .tmp 14), (1, 1, .tmp 16), (2, 1, .tmp 18)])), .mk (some 20) none (.k (.mov (.const (.int .i64 0))))]) (.blk 0 (.loop (.ref 4)))) (.ref 5)
def T26n7 : XC := .seq (.ops [.mk (some 8) none (.k (.fld 0 (.tmp 1))), .mk (some 9) none (.k (.load [.int .i64] false (.tmp 8))), .mk (some 10) none (.call 41 [.tmp 9]), .mk (some 7) none (.k (.mov (.tmp 10))), .mk (some 11) none (.k (.ext (.tmp 7) 0)), .mk (some 12) none (.k (.ext (.tmp 7) 1)), .mk (some 3) none (.k (.mov (.tmp 11))), .mk (some 4) none (.k (.mov (.tmp 12)))]) (.ref 6)
def T26 : Nat → XC
 | 0 => T26n0
 | 1 => T26n1
 | 2 => T26n2
 | 3 => T26n3
 | 4 => T26n4
 | 5 => T26n5
 | 6 => T26n6
 | 7 => T26n7
 | _ => .skip
theorem t26n0 : T26 0 = T26n0 := rfl
theorem t26n1 : T26 1 = T26n1 := rfl
theorem t26n2 : T26 2 = T26n2 := rfl
theorem t26n3 : T26 3 = T26n3 := rfl
theorem t26n4 : T26 4 = T26n4 := rfl
theorem t26n5 : T26 5 = T26n5 := rfl
theorem t26n6 : T26 6 = T26n6 := rfl
theorem t26n7 : T26 7 = T26n7 := rfl
def X26 : XC := .seq (.ops [.mk (some 1) none (.k (.box 43 5 (.tmp 0))), .mk (some 2) none (.k (.mov (.const (.bool false))))]) (.ref 7)
abbrev K26 : List Nat := [0, 1, 2, 3, 4, 5, 6, 19, 20, 21, 36]
theorem n26 : Tryd.f26.ntmps = 39 := by kernel_rfl
theorem r26 : resT Tryd.f26.results.toList = some [2] := by kernel_rfl
theorem x26 : cmpF Tryd.prog Tryd.f26 = some (expand T26 9 X26) := by kernel_rfl
def T41n0 : XC := .seq (.ops [.mk (some 2) none (.k (.mov (.const (.string (ByteArray.mk (Array.mk [])))))), .mk (some 3) none (.k (.mov (.const (.bool false))))]) .ret
def T41n1 : XC := .seq (.ops [.mk (some 10) none (.k (.mov (.tmp 0))), .mk (some 11) none (.k (.idxA 19 2 (.global 0) (.tmp 10))), .mk (some 12) none (.k (.fld 1 (.tmp 11))), .mk (some 13) none (.k (.load [.str] false (.tmp 12))), .mk (some 2) none (.k (.mov (.tmp 13))), .mk (some 3) none (.k (.mov (.const (.bool true))))]) .ret
def T41n2 : XC := .seq (.seq (.ops [.mk (some 4) none (.k (.mov (.tmp 0))), .mk (some 5) none (.k (.cmp .lss .i64 (.tmp 4) (.const (.int .i64 1)))), .mk (some 6) none (.k (.mov (.tmp 5))), .mk (some 7) (some (6, false)) (.k (.mov (.tmp 0))), .mk (some 8) (some (6, false)) (.k (.cmp .geq .i64 (.tmp 7) (.const (.int .i64 19)))), .mk (some 9) none (.k (.pick (.tmp 6) (.const (.bool true)) (.tmp 8)))]) (.cond (.tmp 9) (.ref 0) .skip)) (.ref 1)
def T41 : Nat → XC
 | 0 => T41n0
 | 1 => T41n1
 | 2 => T41n2
 | _ => .skip
theorem t41n0 : T41 0 = T41n0 := rfl
theorem t41n1 : T41 1 = T41n1 := rfl
theorem t41n2 : T41 2 = T41n2 := rfl
def X41 : XC := .seq (.ops [.mk (some 2) none (.k (.mov (.const (.string (ByteArray.mk (Array.mk [])))))), .mk (some 3) none (.k (.mov (.const (.bool false))))]) (.ref 2)
abbrev K41 : List Nat := [0, 2, 3, 9]
theorem n41 : Tryd.f41.ntmps = 14 := by kernel_rfl
theorem r41 : resT Tryd.f41.results.toList = some [2, 3] := by kernel_rfl
theorem x41 : cmpF Tryd.prog Tryd.f41 = some (expand T41 4 X41) := by kernel_rfl
def T42n0 : XC := .seq (.ops [.mk (some 5) none (.k (.mov (.tmp 0))), .mk (some 6) none (.k (.mov (.tmp 1))), .mk (some 7) none (.call 54 [.tmp 5, .tmp 6]), .mk (some 4) none (.k (.mov (.tmp 7)))]) .ret
def T42 : Nat → XC
 | 0 => T42n0
 | _ => .skip
theorem t42n0 : T42 0 = T42n0 := rfl
def X42 : XC := .seq (.ops [.mk (some 4) none (.k (.mov (.const (.int .i64 0))))]) (.ref 0)
abbrev K42 : List Nat := [0, 1, 4]
theorem n42 : Tryd.f42.ntmps = 8 := by kernel_rfl
theorem r42 : resT Tryd.f42.results.toList = some [4] := by kernel_rfl
theorem x42 : cmpF Tryd.prog Tryd.f42 = some (expand T42 2 X42) := by kernel_rfl
def T54n0 : XC := .seq (.ops [.mk (some 5) none (.k (.mov (.tmp 0))), .mk (some 6) none (.k (.mov (.tmp 1))), .mk (some 7) none (.k (.lib 0 [.tmp 5, .tmp 6])), .mk (some 4) none (.k (.mov (.tmp 7)))]) .ret
def T54 : Nat → XC
 | 0 => T54n0
 | _ => .skip
theorem t54n0 : T54 0 = T54n0 := rfl
def X54 : XC := .seq (.ops [.mk (some 4) none (.k (.mov (.const (.int .i64 0))))]) (.ref 0)
abbrev K54 : List Nat := [0, 1, 4]
theorem n54 : Tryd.f54.ntmps = 8 := by kernel_rfl
theorem r54 : resT Tryd.f54.results.toList = some [4] := by kernel_rfl
theorem x54 : cmpF Tryd.prog Tryd.f54 = some (expand T54 2 X54) := by kernel_rfl
end Go.Proofs.YtaiajnehnjnadaaDoor
