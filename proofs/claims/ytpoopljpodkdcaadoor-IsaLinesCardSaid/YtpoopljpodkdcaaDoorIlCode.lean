/- Printed by program: the small code of functions, and that it is theirs. -/
import Derived.Test.YtpoopljpodkdcaaDoorSxStill
import Derived.Test.YtpoopljpodkdcaaDoorProg
import Derived.KernelRfl
set_option linter.unusedSimpArgs false
set_option linter.unusedVariables false
set_option linter.unnecessarySimpa false
namespace Go.Proofs.YtpoopljpodkdcaaDoor
open Go Go.Sx
set_option maxRecDepth 100000
def T4n0 : XC := .seq (.ops [XS.mk (some 4) none (XI.k (XK.mov (Operand.const (Value.bool true))))]) (.ret)
def T4n1 : XC := .seq (.ops [XS.mk (some 22) none (XI.k (XK.load [CK.int IntKind.i64, CK.int IntKind.i64, CK.int IntKind.i64, CK.int IntKind.i64, CK.int IntKind.i64] true (Operand.tmp 2))), XS.mk (some 24) none (XI.k (XK.load [CK.int IntKind.i64, CK.int IntKind.i64, CK.int IntKind.i64, CK.int IntKind.i64, CK.int IntKind.i64] true (Operand.tmp 2))), XS.mk (some 23) none (XI.call 16 [Operand.tmp 22]), XS.mk none none (XI.still 24 (XK.load [CK.int IntKind.i64, CK.int IntKind.i64, CK.int IntKind.i64, CK.int IntKind.i64, CK.int IntKind.i64] true (Operand.tmp 2))), XS.mk (some 25) none (XI.call 17 [Operand.tmp 24]), XS.mk (some 26) none (XI.k (XK.eqs BinOp.eql (Operand.tmp 23) (Operand.tmp 25))), XS.mk (some 27) none (XI.k (XK.mov (Operand.tmp 26))), XS.mk (some 28) (some (27, true)) (XI.k (XK.load [CK.int IntKind.i64, CK.int IntKind.i64, CK.int IntKind.i64, CK.int IntKind.i64, CK.int IntKind.i64] true (Operand.tmp 5))), XS.mk (some 29) (some (27, true)) (XI.k (XK.load [CK.int IntKind.i64, CK.int IntKind.i64, CK.int IntKind.i64, CK.int IntKind.i64, CK.int IntKind.i64] true (Operand.tmp 7))), XS.mk (some 30) (some (27, true)) (XI.k (XK.eqa false [CK.int IntKind.i64, CK.int IntKind.i64, CK.int IntKind.i64, CK.int IntKind.i64, CK.int IntKind.i64] (Operand.tmp 28) (Operand.tmp 29))), XS.mk (some 31) none (XI.k (XK.pick (Operand.tmp 27) (Operand.tmp 30) (Operand.const (Value.bool false)))), XS.mk (some 32) none (XI.k (XK.mov (Operand.tmp 31))), XS.mk (some 33) (some (32, true)) (XI.k (XK.mov (Operand.tmp 6))), XS.mk (some 34) (some (32, true)) (XI.k (XK.mov (Operand.tmp 8))), XS.mk (some 35) (some (32, true)) (XI.k (XK.cmp BinOp.eql IntKind.i64 (Operand.tmp 33) (Operand.tmp 34))), XS.mk (some 36) none (XI.k (XK.pick (Operand.tmp 32) (Operand.tmp 35) (Operand.const (Value.bool false)))), XS.mk (some 4) none (XI.k (XK.mov (Operand.tmp 36)))]) (.ret)
def T4n2 : XC := .seq (.ops [XS.mk (some 18) none (XI.k (XK.mov (Operand.tmp 1))), XS.mk (some 19) none (XI.call 15 [Operand.tmp 18]), XS.mk (some 17) none (XI.k (XK.mov (Operand.tmp 19))), XS.mk (some 20) none (XI.k (XK.ext (Operand.tmp 17) 0)), XS.mk (some 21) none (XI.k (XK.ext (Operand.tmp 17) 1)), XS.mk (some 7) none (XI.k (XK.alloc 23 [Value.int IntKind.i64 0, Value.int IntKind.i64 0, Value.int IntKind.i64 0, Value.int IntKind.i64 0, Value.int IntKind.i64 0])), XS.mk none none (XI.k (XK.store 5 (Operand.tmp 7) (Operand.tmp 20))), XS.mk (some 8) none (XI.k (XK.mov (Operand.tmp 21)))]) (.ref 1)
def T4n3 : XC := .seq (.ops [XS.mk (some 13) none (XI.k (XK.mov (Operand.tmp 1))), XS.mk (some 14) none (XI.call 14 [Operand.tmp 13]), XS.mk (some 12) none (XI.k (XK.mov (Operand.tmp 14))), XS.mk (some 15) none (XI.k (XK.ext (Operand.tmp 12) 0)), XS.mk (some 16) none (XI.k (XK.ext (Operand.tmp 12) 1)), XS.mk (some 5) none (XI.k (XK.alloc 23 [Value.int IntKind.i64 0, Value.int IntKind.i64 0, Value.int IntKind.i64 0, Value.int IntKind.i64 0, Value.int IntKind.i64 0])), XS.mk none none (XI.k (XK.store 5 (Operand.tmp 5) (Operand.tmp 15))), XS.mk (some 6) none (XI.k (XK.mov (Operand.tmp 16)))]) (.ref 2)
def T4n4 : XC := .seq (.seq (.ops [XS.mk (some 9) none (XI.k (XK.mov (Operand.tmp 1))), XS.mk (some 10) none (XI.k (XK.lenT (Operand.tmp 9))), XS.mk (some 11) none (XI.k (XK.cmp BinOp.gtr IntKind.i64 (Operand.tmp 10) (Operand.const (Value.int IntKind.i64 1000))))]) (.cond (Operand.tmp 11) (.ref 0) (.skip))) (.ref 3)
def T4 : Nat → XC
  | 0 => T4n0
  | 1 => T4n1
  | 2 => T4n2
  | 3 => T4n3
  | 4 => T4n4
  | _ => .skip
theorem t4n0 : T4 0 = T4n0 := rfl
theorem t4n1 : T4 1 = T4n1 := rfl
theorem t4n2 : T4 2 = T4n2 := rfl
theorem t4n3 : T4 3 = T4n3 := rfl
theorem t4n4 : T4 4 = T4n4 := rfl
def X4 : XC := .seq (.ops [XS.mk (some 2) none (XI.k (XK.box 23 5 (Operand.tmp 0))), XS.mk (some 4) none (XI.k (XK.mov (Operand.const (Value.bool false))))]) (.ref 4)
abbrev K4 : List Nat := [0, 1, 2, 4, 5, 6, 7, 8, 11]
theorem n4 : Tryd.f4.ntmps = 37 := by kernel_rfl
theorem r4 : resT Tryd.f4.results.toList = some [4] := by kernel_rfl
theorem x4 : cmpF Tryd.prog Tryd.f4 = some (expand T4 6 X4) := by kernel_rfl
def T5n0 : XC := .seq (.ops [XS.mk (some 18) none (XI.k (XK.mov (Operand.tmp 5))), XS.mk (some 4) none (XI.k (XK.mov (Operand.tmp 18)))]) (.ret)
def T5n1 : XC := .seq (.ops [XS.mk (some 4) none (XI.k (XK.mov (Operand.const (Value.bool false))))]) (.ret)
def T5n2 : XC := .seq (.ops [XS.mk (some 39) none (XI.k (XK.mov (Operand.tmp 9))), XS.mk (some 40) none (XI.k (XK.cmp BinOp.eql IntKind.i64 (Operand.tmp 39) (Operand.const (Value.int IntKind.i64 2)))), XS.mk (some 41) none (XI.k (XK.mov (Operand.tmp 40))), XS.mk (some 42) (some (41, true)) (XI.k (XK.load [CK.int IntKind.i64, CK.int IntKind.i64, CK.int IntKind.i64, CK.int IntKind.i64, CK.int IntKind.i64] true (Operand.tmp 8))), XS.mk (some 43) (some (41, true)) (XI.k (XK.build [Value.int IntKind.i64 0, Value.int IntKind.i64 0, Value.int IntKind.i64 0, Value.int IntKind.i64 0, Value.int IntKind.i64 0] [])), XS.mk (some 44) (some (41, true)) (XI.k (XK.eqa false [CK.int IntKind.i64, CK.int IntKind.i64, CK.int IntKind.i64, CK.int IntKind.i64, CK.int IntKind.i64] (Operand.tmp 42) (Operand.tmp 43))), XS.mk (some 45) none (XI.k (XK.pick (Operand.tmp 41) (Operand.tmp 44) (Operand.const (Value.bool false)))), XS.mk (some 4) none (XI.k (XK.mov (Operand.tmp 45)))]) (.ret)
def T5n3 : XC := .seq (.ops [XS.mk (some 46) none (XI.k (XK.mov (Operand.tmp 5))), XS.mk (some 47) none (XI.k (XK.mov (Operand.tmp 46))), XS.mk (some 48) (some (47, true)) (XI.k (XK.load [CK.int IntKind.i64, CK.int IntKind.i64, CK.int IntKind.i64, CK.int IntKind.i64, CK.int IntKind.i64] true (Operand.tmp 8))), XS.mk (some 49) (some (47, true)) (XI.call 16 [Operand.tmp 48]), XS.mk (some 50) (some (47, true)) (XI.k (XK.mov (Operand.tmp 1))), XS.mk (some 51) (some (47, true)) (XI.k (XK.eqs BinOp.eql (Operand.tmp 49) (Operand.tmp 50))), XS.mk (some 52) none (XI.k (XK.pick (Operand.tmp 47) (Operand.tmp 51) (Operand.const (Value.bool false)))), XS.mk (some 4) none (XI.k (XK.mov (Operand.tmp 52)))]) (.ret)
def T5n4 : XC := .seq (.seq (.ops [XS.mk (some 37) none (XI.k (XK.mov (Operand.tmp 9))), XS.mk (some 38) none (XI.k (XK.cmp BinOp.neq IntKind.i64 (Operand.tmp 37) (Operand.const (Value.int IntKind.i64 0))))]) (.cond (Operand.tmp 38) (.ref 2) (.skip))) (.ref 3)
def T5n5 : XC := .seq (.ops [XS.mk (some 33) none (XI.k (XK.mov (Operand.tmp 1))), XS.mk (some 34) none (XI.call 14 [Operand.tmp 33]), XS.mk (some 32) none (XI.k (XK.mov (Operand.tmp 34))), XS.mk (some 35) none (XI.k (XK.ext (Operand.tmp 32) 0)), XS.mk (some 36) none (XI.k (XK.ext (Operand.tmp 32) 1)), XS.mk (some 8) none (XI.k (XK.alloc 23 [Value.int IntKind.i64 0, Value.int IntKind.i64 0, Value.int IntKind.i64 0, Value.int IntKind.i64 0, Value.int IntKind.i64 0])), XS.mk none none (XI.k (XK.store 5 (Operand.tmp 8) (Operand.tmp 35))), XS.mk (some 9) none (XI.k (XK.mov (Operand.tmp 36)))]) (.ref 4)
def T5n6 : XC := .seq (.seq (.ops [XS.mk (some 25) none (XI.k (XK.mov (Operand.tmp 7))), XS.mk (some 26) none (XI.k (XK.cmp BinOp.neq IntKind.i64 (Operand.tmp 25) (Operand.const (Value.int IntKind.i64 0)))), XS.mk (some 27) none (XI.k (XK.mov (Operand.tmp 26))), XS.mk (some 28) (some (27, false)) (XI.k (XK.load [CK.int IntKind.i64, CK.int IntKind.i64, CK.int IntKind.i64, CK.int IntKind.i64, CK.int IntKind.i64] true (Operand.tmp 6))), XS.mk (some 29) (some (27, false)) (XI.k (XK.load [CK.int IntKind.i64, CK.int IntKind.i64, CK.int IntKind.i64, CK.int IntKind.i64, CK.int IntKind.i64] true (Operand.tmp 2))), XS.mk (some 30) (some (27, false)) (XI.k (XK.eqa true [CK.int IntKind.i64, CK.int IntKind.i64, CK.int IntKind.i64, CK.int IntKind.i64, CK.int IntKind.i64] (Operand.tmp 28) (Operand.tmp 29))), XS.mk (some 31) none (XI.k (XK.pick (Operand.tmp 27) (Operand.const (Value.bool true)) (Operand.tmp 30)))]) (.cond (Operand.tmp 31) (.ref 1) (.skip))) (.ref 5)
def T5n7 : XC := .seq (.ops [XS.mk (some 20) none (XI.k (XK.load [CK.int IntKind.i64, CK.int IntKind.i64, CK.int IntKind.i64, CK.int IntKind.i64, CK.int IntKind.i64] true (Operand.tmp 2))), XS.mk (some 21) none (XI.call 16 [Operand.tmp 20]), XS.mk (some 22) none (XI.call 14 [Operand.tmp 21]), XS.mk (some 19) none (XI.k (XK.mov (Operand.tmp 22))), XS.mk (some 23) none (XI.k (XK.ext (Operand.tmp 19) 0)), XS.mk (some 24) none (XI.k (XK.ext (Operand.tmp 19) 1)), XS.mk (some 6) none (XI.k (XK.alloc 23 [Value.int IntKind.i64 0, Value.int IntKind.i64 0, Value.int IntKind.i64 0, Value.int IntKind.i64 0, Value.int IntKind.i64 0])), XS.mk none none (XI.k (XK.store 5 (Operand.tmp 6) (Operand.tmp 23))), XS.mk (some 7) none (XI.k (XK.mov (Operand.tmp 24)))]) (.ref 6)
def T5n8 : XC := .seq (.seq (.ops [XS.mk (some 11) none (XI.k (XK.mov (Operand.tmp 1))), XS.mk (some 12) none (XI.k (XK.lenT (Operand.tmp 11))), XS.mk (some 13) none (XI.k (XK.cmp BinOp.gtr IntKind.i64 (Operand.tmp 12) (Operand.const (Value.int IntKind.i64 1000)))), XS.mk (some 14) none (XI.k (XK.mov (Operand.tmp 13))), XS.mk (some 15) (some (14, false)) (XI.k (XK.mov (Operand.tmp 5))), XS.mk (some 16) (some (14, false)) (XI.k (XK.not (Operand.tmp 15))), XS.mk (some 17) none (XI.k (XK.pick (Operand.tmp 14) (Operand.const (Value.bool true)) (Operand.tmp 16)))]) (.cond (Operand.tmp 17) (.ref 0) (.skip))) (.ref 7)
def T5n9 : XC := .seq (.ops [XS.mk (some 10) none (XI.call 18 []), XS.mk (some 5) none (XI.k (XK.mov (Operand.tmp 10)))]) (.ref 8)
def T5 : Nat → XC
  | 0 => T5n0
  | 1 => T5n1
  | 2 => T5n2
  | 3 => T5n3
  | 4 => T5n4
  | 5 => T5n5
  | 6 => T5n6
  | 7 => T5n7
  | 8 => T5n8
  | 9 => T5n9
  | _ => .skip
theorem t5n0 : T5 0 = T5n0 := rfl
theorem t5n1 : T5 1 = T5n1 := rfl
theorem t5n2 : T5 2 = T5n2 := rfl
theorem t5n3 : T5 3 = T5n3 := rfl
theorem t5n4 : T5 4 = T5n4 := rfl
theorem t5n5 : T5 5 = T5n5 := rfl
theorem t5n6 : T5 6 = T5n6 := rfl
theorem t5n7 : T5 7 = T5n7 := rfl
theorem t5n8 : T5 8 = T5n8 := rfl
theorem t5n9 : T5 9 = T5n9 := rfl
def X5 : XC := .seq (.ops [XS.mk (some 2) none (XI.k (XK.box 23 5 (Operand.tmp 0))), XS.mk (some 4) none (XI.k (XK.mov (Operand.const (Value.bool false))))]) (.ref 9)
abbrev K5 : List Nat := [0, 1, 2, 4, 5, 6, 7, 8, 9, 17, 31, 38]
theorem n5 : Tryd.f5.ntmps = 53 := by kernel_rfl
theorem r5 : resT Tryd.f5.results.toList = some [4] := by kernel_rfl
theorem x5 : cmpF Tryd.prog Tryd.f5 = some (expand T5 11 X5) := by kernel_rfl
def T14n0 : XC := .seq (.ops [XS.mk (some 26) none (XI.k (XK.load [CK.int IntKind.i64, CK.int IntKind.i64, CK.int IntKind.i64, CK.int IntKind.i64, CK.int IntKind.i64] true (Operand.tmp 6))), XS.mk none none (XI.k (XK.store 5 (Operand.tmp 2) (Operand.tmp 26))), XS.mk (some 3) none (XI.k (XK.mov (Operand.const (Value.int IntKind.i64 0))))]) (.ret)
def T14n1 : XC := .seq (.ops [XS.mk (some 25) none (XI.k (XK.mov (Operand.tmp 7)))]) (.cond (Operand.tmp 25) (.ref 0) (.skip))
def T14n2 : XC := .seq (.ops [XS.mk (some 27) none (XI.k (XK.build [Value.int IntKind.i64 0, Value.int IntKind.i64 0, Value.int IntKind.i64 0, Value.int IntKind.i64 0, Value.int IntKind.i64 0] [])), XS.mk none none (XI.k (XK.store 5 (Operand.tmp 2) (Operand.tmp 27))), XS.mk (some 3) none (XI.k (XK.mov (Operand.const (Value.int IntKind.i64 2))))]) (.ret)
def T14n3 : XC := .seq (.seq (.ops [XS.mk (some 20) none (XI.k (XK.mov (Operand.tmp 5))), XS.mk (some 21) none (XI.k (XK.build [Value.int IntKind.i64 0, Value.int IntKind.i64 0, Value.int IntKind.i64 0, Value.int IntKind.i64 0, Value.int IntKind.i64 0] [])), XS.mk (some 22) none (XI.callv (Operand.tmp 20) [Operand.tmp 21, Operand.const (Value.string (ByteArray.mk (Array.mk [UInt8.ofNat 79, UInt8.ofNat 65, UInt8.ofNat 66, UInt8.ofNat 67, UInt8.ofNat 73])))]), XS.mk (some 19) none (XI.k (XK.mov (Operand.tmp 22))), XS.mk (some 23) none (XI.k (XK.ext (Operand.tmp 19) 0)), XS.mk (some 24) none (XI.k (XK.ext (Operand.tmp 19) 1)), XS.mk (some 6) none (XI.k (XK.alloc 23 [Value.int IntKind.i64 0, Value.int IntKind.i64 0, Value.int IntKind.i64 0, Value.int IntKind.i64 0, Value.int IntKind.i64 0])), XS.mk none none (XI.k (XK.store 5 (Operand.tmp 6) (Operand.tmp 23))), XS.mk (some 7) none (XI.k (XK.mov (Operand.tmp 24)))]) (.ref 1)) (.ref 2)
def T14n4 : XC := .seq (.ops [XS.mk (some 53) none (XI.k (XK.load [CK.int IntKind.i64, CK.int IntKind.i64, CK.int IntKind.i64, CK.int IntKind.i64, CK.int IntKind.i64] true (Operand.tmp 10))), XS.mk none none (XI.k (XK.store 5 (Operand.tmp 2) (Operand.tmp 53))), XS.mk (some 3) none (XI.k (XK.mov (Operand.const (Value.int IntKind.i64 0))))]) (.ret)
def T14n5 : XC := .seq (.ops [XS.mk (some 52) none (XI.k (XK.mov (Operand.tmp 11)))]) (.cond (Operand.tmp 52) (.ref 4) (.skip))
def T14n6 : XC := .seq (.ops [XS.mk (some 44) none (XI.k (XK.mov (Operand.tmp 5))), XS.mk (some 45) none (XI.k (XK.mov (Operand.tmp 8))), XS.mk (some 46) none (XI.k (XK.build [Value.int IntKind.i64 0, Value.int IntKind.i64 0, Value.int IntKind.i64 0, Value.int IntKind.i64 0, Value.int IntKind.i64 0] [(0, 1, Operand.tmp 45)])), XS.mk (some 47) none (XI.k (XK.fld 1 (Operand.tmp 9))), XS.mk (some 48) none (XI.k (XK.load [CK.str] false (Operand.tmp 47))), XS.mk (some 49) none (XI.callv (Operand.tmp 44) [Operand.tmp 46, Operand.tmp 48]), XS.mk (some 43) none (XI.k (XK.mov (Operand.tmp 49))), XS.mk (some 50) none (XI.k (XK.ext (Operand.tmp 43) 0)), XS.mk (some 51) none (XI.k (XK.ext (Operand.tmp 43) 1)), XS.mk (some 10) none (XI.k (XK.alloc 23 [Value.int IntKind.i64 0, Value.int IntKind.i64 0, Value.int IntKind.i64 0, Value.int IntKind.i64 0, Value.int IntKind.i64 0])), XS.mk none none (XI.k (XK.store 5 (Operand.tmp 10) (Operand.tmp 50))), XS.mk (some 11) none (XI.k (XK.mov (Operand.tmp 51)))]) (.ref 5)
def T14n7 : XC := .seq (.seq (.ops [XS.mk (some 33) none (XI.k (XK.mov (Operand.tmp 8))), XS.mk (some 34) none (XI.k (XK.cmp BinOp.lss IntKind.i64 (Operand.tmp 33) (Operand.const (Value.int IntKind.i64 1)))), XS.mk (some 35) none (XI.k (XK.mov (Operand.tmp 34))), XS.mk (some 36) (some (35, false)) (XI.k (XK.fld 0 (Operand.tmp 9))), XS.mk (some 37) (some (35, false)) (XI.k (XK.load [CK.str] false (Operand.tmp 36))), XS.mk (some 38) (some (35, false)) (XI.k (XK.load [CK.slc] false (Operand.tmp 4))), XS.mk (some 39) (some (35, false)) (XI.k (XK.idx 1 (Operand.tmp 38) (Operand.const (Value.int IntKind.i64 0)))), XS.mk (some 40) (some (35, false)) (XI.k (XK.load [CK.str] false (Operand.tmp 39))), XS.mk (some 41) (some (35, false)) (XI.k (XK.eqs BinOp.neq (Operand.tmp 37) (Operand.tmp 40))), XS.mk (some 42) none (XI.k (XK.pick (Operand.tmp 35) (Operand.const (Value.bool true)) (Operand.tmp 41)))]) (.cond (Operand.tmp 42) (.exit 1) (.skip))) (.ref 6)
def T14n8 : XC := .seq (.blk 1 (.seq (.ops [XS.mk (some 31) none (XI.k (XK.mov (Operand.tmp 29))), XS.mk (some 32) none (XI.k (XK.ixA 19 2 true (Operand.tmp 28) (Operand.tmp 29))), XS.mk (some 9) none (XI.k (XK.alloc 80 [Value.string (ByteArray.mk (Array.mk [])), Value.string (ByteArray.mk (Array.mk []))])), XS.mk (some 8) none (XI.k (XK.mov (Operand.tmp 31))), XS.mk none none (XI.k (XK.store 2 (Operand.tmp 9) (Operand.tmp 32)))]) (.ref 7))) (.ops [XS.mk (some 54) none (XI.k (XK.arith BinOp.add IntKind.i64 (Operand.tmp 29) (Operand.const (Value.int IntKind.i64 1)))), XS.mk (some 29) none (XI.k (XK.mov (Operand.tmp 54)))])
def T14n9 : XC := .seq (.cond (Operand.tmp 30) (.skip) (.exit 0)) (.ref 8)
def T14n10 : XC := .seq (.ops [XS.mk (some 30) none (XI.k (XK.cmp BinOp.lss IntKind.i64 (Operand.tmp 29) (Operand.const (Value.int IntKind.i64 19))))]) (.ref 9)
def T14n11 : XC := .seq (.ops [XS.mk (some 55) none (XI.k (XK.build [Value.int IntKind.i64 0, Value.int IntKind.i64 0, Value.int IntKind.i64 0, Value.int IntKind.i64 0, Value.int IntKind.i64 0] [])), XS.mk none none (XI.k (XK.store 5 (Operand.tmp 2) (Operand.tmp 55))), XS.mk (some 3) none (XI.k (XK.mov (Operand.const (Value.int IntKind.i64 2))))]) (.ret)
def T14n12 : XC := .seq (.seq (.ops [XS.mk (some 28) none (XI.k (XK.load [CK.str, CK.str, CK.str, CK.str, CK.str, CK.str, CK.str, CK.str, CK.str, CK.str, CK.str, CK.str, CK.str, CK.str, CK.str, CK.str, CK.str, CK.str, CK.str, CK.str, CK.str, CK.str, CK.str, CK.str, CK.str, CK.str, CK.str, CK.str, CK.str, CK.str, CK.str, CK.str, CK.str, CK.str, CK.str, CK.str, CK.str, CK.str] true (Operand.global 0))), XS.mk (some 29) none (XI.k (XK.mov (Operand.const (Value.int IntKind.i64 0))))]) (.blk 0 (.loop (.ref 10)))) (.ref 11)
def T14n13 : XC := .seq (.seq (.ops [XS.mk (some 15) none (XI.k (XK.load [CK.slc] false (Operand.tmp 4))), XS.mk (some 16) none (XI.k (XK.idx 1 (Operand.tmp 15) (Operand.const (Value.int IntKind.i64 0)))), XS.mk (some 17) none (XI.k (XK.load [CK.str] false (Operand.tmp 16))), XS.mk (some 18) none (XI.k (XK.eqs BinOp.eql (Operand.tmp 17) (Operand.const (Value.string (ByteArray.mk (Array.mk [UInt8.ofNat 114, UInt8.ofNat 97, UInt8.ofNat 119]))))))]) (.cond (Operand.tmp 18) (.ref 3) (.skip))) (.seq (.lab) (.ref 12))
def T14n14 : XC := .seq (.ops [XS.mk (some 14) none (XI.k (XK.mkfn (Fn.func 35) [] [Operand.tmp 4, Operand.tmp 1])), XS.mk (some 5) none (XI.k (XK.mov (Operand.tmp 14)))]) (.ref 13)
def T14n15 : XC := .scp (.seq (.ops [XS.mk (some 12) none (XI.k (XK.load [CK.str] false (Operand.tmp 1))), XS.mk (some 13) none (XI.call 34 [Operand.tmp 12, Operand.const (Value.string (ByteArray.mk (Array.mk [UInt8.ofNat 32])))]), XS.mk (some 4) none (XI.k (XK.alloc 49 [Value.slice none 0 0])), XS.mk none none (XI.k (XK.store 1 (Operand.tmp 4) (Operand.tmp 13)))]) (.ref 14))
def T14 : Nat → XC
  | 0 => T14n0
  | 1 => T14n1
  | 2 => T14n2
  | 3 => T14n3
  | 4 => T14n4
  | 5 => T14n5
  | 6 => T14n6
  | 7 => T14n7
  | 8 => T14n8
  | 9 => T14n9
  | 10 => T14n10
  | 11 => T14n11
  | 12 => T14n12
  | 13 => T14n13
  | 14 => T14n14
  | 15 => T14n15
  | _ => .skip
theorem t14n0 : T14 0 = T14n0 := rfl
theorem t14n1 : T14 1 = T14n1 := rfl
theorem t14n2 : T14 2 = T14n2 := rfl
theorem t14n3 : T14 3 = T14n3 := rfl
theorem t14n4 : T14 4 = T14n4 := rfl
theorem t14n5 : T14 5 = T14n5 := rfl
theorem t14n6 : T14 6 = T14n6 := rfl
theorem t14n7 : T14 7 = T14n7 := rfl
theorem t14n8 : T14 8 = T14n8 := rfl
theorem t14n9 : T14 9 = T14n9 := rfl
theorem t14n10 : T14 10 = T14n10 := rfl
theorem t14n11 : T14 11 = T14n11 := rfl
theorem t14n12 : T14 12 = T14n12 := rfl
theorem t14n13 : T14 13 = T14n13 := rfl
theorem t14n14 : T14 14 = T14n14 := rfl
theorem t14n15 : T14 15 = T14n15 := rfl
def X14 : XC := .seq (.ops [XS.mk (some 1) none (XI.k (XK.box 9 1 (Operand.tmp 0))), XS.mk (some 2) none (XI.k (XK.alloc 23 [Value.int IntKind.i64 0, Value.int IntKind.i64 0, Value.int IntKind.i64 0, Value.int IntKind.i64 0, Value.int IntKind.i64 0])), XS.mk (some 3) none (XI.k (XK.mov (Operand.const (Value.int IntKind.i64 0))))]) (.ref 15)
abbrev K14 : List Nat := [0, 1, 2, 3, 4, 5, 6, 7, 8, 9, 10, 11, 18, 25, 28, 29, 30, 42, 52]
theorem n14 : Tryd.f14.ntmps = 56 := by kernel_rfl
theorem r14 : rvOf Tryd.prog Tryd.f14.results.toList = some [RV.cell 2 5 true, RV.tmp 3] := by kernel_rfl
theorem x14 : cmpF Tryd.prog Tryd.f14 = some (expand T14 17 X14) := by kernel_rfl
def T16n0 : XC := .ops [XS.mk (some 9) none (XI.k (XK.fld 0 (Operand.tmp 1))), XS.mk (some 10) none (XI.k (XK.load [CK.int IntKind.i64] false (Operand.tmp 9))), XS.mk (some 11) none (XI.k (XK.idxA 19 2 (Operand.global 0) (Operand.tmp 10))), XS.mk (some 12) none (XI.k (XK.fld 0 (Operand.tmp 11))), XS.mk (some 13) none (XI.k (XK.load [CK.str] false (Operand.tmp 12))), XS.mk (some 14) none (XI.k (XK.fld 0 (Operand.tmp 1))), XS.mk (some 15) none (XI.k (XK.load [CK.int IntKind.i64] false (Operand.tmp 14))), XS.mk (some 16) none (XI.k (XK.idxA 19 2 (Operand.global 0) (Operand.tmp 15))), XS.mk (some 17) none (XI.k (XK.fld 1 (Operand.tmp 16))), XS.mk (some 18) none (XI.k (XK.load [CK.str] false (Operand.tmp 17))), XS.mk (some 3) none (XI.k (XK.mov (Operand.tmp 13))), XS.mk (some 4) none (XI.k (XK.mov (Operand.tmp 18)))]
def T16n1 : XC := .ops [XS.mk (some 26) none (XI.k (XK.mov (Operand.tmp 3))), XS.mk (some 27) none (XI.k (XK.mov (Operand.tmp 6))), XS.mk (some 28) none (XI.call 37 [Operand.tmp 1, Operand.tmp 27]), XS.mk (some 29) none (XI.k (XK.nilc (Operand.tmp 28))), XS.mk (some 30) none (XI.k (XK.load [CK.int IntKind.i64] false (Operand.tmp 29))), XS.mk (some 31) none (XI.call 41 [Operand.tmp 30]), XS.mk (some 32) none (XI.k (XK.cat (Operand.const (Value.string (ByteArray.mk (Array.mk [UInt8.ofNat 32])))) (Operand.tmp 31))), XS.mk (some 33) none (XI.k (XK.cat (Operand.tmp 26) (Operand.tmp 32))), XS.mk (some 3) none (XI.k (XK.mov (Operand.tmp 33)))]
def T16n2 : XC := .seq (.blk 1 (.seq (.ops [XS.mk (some 24) none (XI.k (XK.idx 1 (Operand.tmp 20) (Operand.tmp 22))), XS.mk (some 25) none (XI.k (XK.load [CK.int IntKind.u8] false (Operand.tmp 24))), XS.mk (some 6) none (XI.k (XK.mov (Operand.tmp 25)))]) (.ref 1))) (.ops [XS.mk (some 34) none (XI.k (XK.arith BinOp.add IntKind.i64 (Operand.tmp 22) (Operand.const (Value.int IntKind.i64 1)))), XS.mk (some 22) none (XI.k (XK.mov (Operand.tmp 34)))])
def T16n3 : XC := .seq (.cond (Operand.tmp 23) (.skip) (.exit 0)) (.ref 2)
def T16n4 : XC := .seq (.ops [XS.mk (some 23) none (XI.k (XK.cmp BinOp.lss IntKind.i64 (Operand.tmp 22) (Operand.tmp 21)))]) (.ref 3)
def T16n5 : XC := .seq (.ops [XS.mk (some 35) none (XI.k (XK.mov (Operand.tmp 3))), XS.mk (some 2) none (XI.k (XK.mov (Operand.tmp 35)))]) (.ret)
def T16n6 : XC := .seq (.seq (.ops [XS.mk (some 19) none (XI.k (XK.mov (Operand.tmp 4))), XS.mk (some 20) none (XI.k (XK.s2b 5 (Operand.tmp 19))), XS.mk (some 21) none (XI.k (XK.lenS (Operand.tmp 20))), XS.mk (some 22) none (XI.k (XK.mov (Operand.const (Value.int IntKind.i64 0))))]) (.blk 0 (.loop (.ref 4)))) (.ref 5)
def T16n7 : XC := .seq (.seq (.ops [XS.mk (some 7) none (XI.k (XK.load [CK.int IntKind.i64, CK.int IntKind.i64, CK.int IntKind.i64, CK.int IntKind.i64, CK.int IntKind.i64] true (Operand.tmp 1))), XS.mk (some 8) none (XI.call 40 [Operand.tmp 7])]) (.cond (Operand.tmp 8) (.ref 0) (.skip))) (.ref 6)
def T16n8 : XC := .seq (.ops [XS.mk (some 3) none (XI.k (XK.mov (Operand.const (Value.string (ByteArray.mk (Array.mk [UInt8.ofNat 114, UInt8.ofNat 97, UInt8.ofNat 119])))))), XS.mk (some 4) none (XI.k (XK.mov (Operand.const (Value.string (ByteArray.mk (Array.mk [UInt8.ofNat 79, UInt8.ofNat 65, UInt8.ofNat 66, UInt8.ofNat 67, UInt8.ofNat 73]))))))]) (.ref 7)
def T16 : Nat → XC
  | 0 => T16n0
  | 1 => T16n1
  | 2 => T16n2
  | 3 => T16n3
  | 4 => T16n4
  | 5 => T16n5
  | 6 => T16n6
  | 7 => T16n7
  | 8 => T16n8
  | _ => .skip
theorem t16n0 : T16 0 = T16n0 := rfl
theorem t16n1 : T16 1 = T16n1 := rfl
theorem t16n2 : T16 2 = T16n2 := rfl
theorem t16n3 : T16 3 = T16n3 := rfl
theorem t16n4 : T16 4 = T16n4 := rfl
theorem t16n5 : T16 5 = T16n5 := rfl
theorem t16n6 : T16 6 = T16n6 := rfl
theorem t16n7 : T16 7 = T16n7 := rfl
theorem t16n8 : T16 8 = T16n8 := rfl
def X16 : XC := .seq (.ops [XS.mk (some 1) none (XI.k (XK.box 23 5 (Operand.tmp 0))), XS.mk (some 2) none (XI.k (XK.mov (Operand.const (Value.string (ByteArray.mk (Array.mk []))))))]) (.ref 8)
abbrev K16 : List Nat := [0, 1, 2, 3, 4, 6, 8, 20, 21, 22, 23]
theorem n16 : Tryd.f16.ntmps = 36 := by kernel_rfl
theorem r16 : resT Tryd.f16.results.toList = some [2] := by kernel_rfl
theorem x16 : cmpF Tryd.prog Tryd.f16 = some (expand T16 10 X16) := by kernel_rfl
def T35n0 : XC := .seq (.ops [XS.mk (some 18) none (XI.k (XK.load [CK.int IntKind.i64, CK.int IntKind.i64, CK.int IntKind.i64, CK.int IntKind.i64, CK.int IntKind.i64] true (Operand.tmp 4))), XS.mk none none (XI.k (XK.store 5 (Operand.tmp 6) (Operand.tmp 18))), XS.mk (some 7) none (XI.k (XK.mov (Operand.const (Value.bool false))))]) (.ret)
def T35n1 : XC := .seq (.ops [XS.mk (some 34) none (XI.k (XK.load [CK.int IntKind.i64, CK.int IntKind.i64, CK.int IntKind.i64, CK.int IntKind.i64, CK.int IntKind.i64] true (Operand.tmp 4))), XS.mk none none (XI.k (XK.store 5 (Operand.tmp 6) (Operand.tmp 34))), XS.mk (some 7) none (XI.k (XK.mov (Operand.const (Value.bool false))))]) (.ret)
def T35n2 : XC := .ops [XS.mk (some 35) none (XI.k (XK.mov (Operand.tmp 1))), XS.mk (some 36) none (XI.k (XK.mov (Operand.tmp 8))), XS.mk (some 37) none (XI.k (XK.ixT (Operand.tmp 35) (Operand.tmp 36))), XS.mk (some 38) none (XI.call 37 [Operand.tmp 4, Operand.tmp 37]), XS.mk (some 39) none (XI.k (XK.mov (Operand.tmp 10))), XS.mk (some 40) none (XI.k (XK.nilc (Operand.tmp 38))), XS.mk none none (XI.k (XK.store 1 (Operand.tmp 40) (Operand.tmp 39)))]
def T35n3 : XC := .seq (.seq (.ops [XS.mk (some 32) none (XI.k (XK.mov (Operand.tmp 11))), XS.mk (some 33) none (XI.k (XK.eqif true 71 (Operand.tmp 32) (Operand.const Value.nilIface)))]) (.cond (Operand.tmp 33) (.ref 1) (.skip))) (.ref 2)
def T35n4 : XC := .seq (.ops [XS.mk (some 28) none (XI.k (XK.mov (Operand.tmp 9))), XS.mk (some 29) none (XI.call 36 [Operand.tmp 28]), XS.mk (some 27) none (XI.k (XK.mov (Operand.tmp 29))), XS.mk (some 30) none (XI.k (XK.ext (Operand.tmp 27) 0)), XS.mk (some 31) none (XI.k (XK.ext (Operand.tmp 27) 1)), XS.mk (some 10) none (XI.k (XK.mov (Operand.tmp 30))), XS.mk (some 11) none (XI.k (XK.mov (Operand.tmp 31)))]) (.ref 3)
def T35n5 : XC := .seq (.blk 1 (.seq (.ops [XS.mk (some 24) none (XI.k (XK.mov (Operand.tmp 22))), XS.mk (some 25) none (XI.k (XK.idx 1 (Operand.tmp 20) (Operand.tmp 22))), XS.mk (some 26) none (XI.k (XK.load [CK.str] false (Operand.tmp 25))), XS.mk (some 8) none (XI.k (XK.mov (Operand.tmp 24))), XS.mk (some 9) none (XI.k (XK.mov (Operand.tmp 26)))]) (.ref 4))) (.ops [XS.mk (some 41) none (XI.k (XK.arith BinOp.add IntKind.i64 (Operand.tmp 22) (Operand.const (Value.int IntKind.i64 1)))), XS.mk (some 22) none (XI.k (XK.mov (Operand.tmp 41)))])
def T35n6 : XC := .seq (.cond (Operand.tmp 23) (.skip) (.exit 0)) (.ref 5)
def T35n7 : XC := .seq (.ops [XS.mk (some 23) none (XI.k (XK.cmp BinOp.lss IntKind.i64 (Operand.tmp 22) (Operand.tmp 21)))]) (.ref 6)
def T35n8 : XC := .seq (.ops [XS.mk (some 42) none (XI.k (XK.load [CK.int IntKind.i64, CK.int IntKind.i64, CK.int IntKind.i64, CK.int IntKind.i64, CK.int IntKind.i64] true (Operand.tmp 4))), XS.mk (some 43) none (XI.k (XK.load [CK.int IntKind.i64, CK.int IntKind.i64, CK.int IntKind.i64, CK.int IntKind.i64, CK.int IntKind.i64] true (Operand.tmp 4))), XS.mk (some 45) none (XI.k (XK.load [CK.str] false (Operand.tmp 3))), XS.mk (some 44) none (XI.call 16 [Operand.tmp 43]), XS.mk none none (XI.still 45 (XK.load [CK.str] false (Operand.tmp 3))), XS.mk none none (XI.still 42 (XK.load [CK.int IntKind.i64, CK.int IntKind.i64, CK.int IntKind.i64, CK.int IntKind.i64, CK.int IntKind.i64] true (Operand.tmp 4))), XS.mk (some 46) none (XI.k (XK.eqs BinOp.eql (Operand.tmp 44) (Operand.tmp 45))), XS.mk none none (XI.k (XK.store 5 (Operand.tmp 6) (Operand.tmp 42))), XS.mk none none (XI.still 45 (XK.load [CK.str] false (Operand.tmp 3))), XS.mk (some 7) none (XI.k (XK.mov (Operand.tmp 46)))]) (.ret)
def T35n9 : XC := .seq (.seq (.ops [XS.mk (some 19) none (XI.k (XK.load [CK.slc] false (Operand.tmp 2))), XS.mk (some 20) none (XI.k (XK.sub 1 (Operand.tmp 19) (some (Operand.const (Value.int IntKind.i64 1))) none)), XS.mk (some 21) none (XI.k (XK.lenS (Operand.tmp 20))), XS.mk (some 22) none (XI.k (XK.mov (Operand.const (Value.int IntKind.i64 0))))]) (.blk 0 (.loop (.ref 7)))) (.ref 8)
def T35n10 : XC := .seq (.seq (.ops [XS.mk (some 12) none (XI.k (XK.load [CK.slc] false (Operand.tmp 2))), XS.mk (some 13) none (XI.k (XK.lenS (Operand.tmp 12))), XS.mk (some 14) none (XI.k (XK.mov (Operand.tmp 1))), XS.mk (some 15) none (XI.k (XK.lenT (Operand.tmp 14))), XS.mk (some 16) none (XI.k (XK.arith BinOp.add IntKind.i64 (Operand.tmp 15) (Operand.const (Value.int IntKind.i64 1)))), XS.mk (some 17) none (XI.k (XK.cmp BinOp.neq IntKind.i64 (Operand.tmp 13) (Operand.tmp 16)))]) (.cond (Operand.tmp 17) (.ref 0) (.skip))) (.ref 9)
def T35 : Nat → XC
  | 0 => T35n0
  | 1 => T35n1
  | 2 => T35n2
  | 3 => T35n3
  | 4 => T35n4
  | 5 => T35n5
  | 6 => T35n6
  | 7 => T35n7
  | 8 => T35n8
  | 9 => T35n9
  | 10 => T35n10
  | _ => .skip
theorem t35n0 : T35 0 = T35n0 := rfl
theorem t35n1 : T35 1 = T35n1 := rfl
theorem t35n2 : T35 2 = T35n2 := rfl
theorem t35n3 : T35 3 = T35n3 := rfl
theorem t35n4 : T35 4 = T35n4 := rfl
theorem t35n5 : T35 5 = T35n5 := rfl
theorem t35n6 : T35 6 = T35n6 := rfl
theorem t35n7 : T35 7 = T35n7 := rfl
theorem t35n8 : T35 8 = T35n8 := rfl
theorem t35n9 : T35 9 = T35n9 := rfl
theorem t35n10 : T35 10 = T35n10 := rfl
def X35 : XC := .seq (.ops [XS.mk (some 4) none (XI.k (XK.box 23 5 (Operand.tmp 0))), XS.mk (some 6) none (XI.k (XK.alloc 23 [Value.int IntKind.i64 0, Value.int IntKind.i64 0, Value.int IntKind.i64 0, Value.int IntKind.i64 0, Value.int IntKind.i64 0])), XS.mk (some 7) none (XI.k (XK.mov (Operand.const (Value.bool false))))]) (.ref 10)
abbrev K35 : List Nat := [0, 1, 2, 3, 4, 6, 7, 8, 9, 10, 11, 17, 20, 21, 22, 23, 33]
theorem n35 : Tryd.f35.ntmps = 47 := by kernel_rfl
theorem r35 : rvOf Tryd.prog Tryd.f35.results.toList = some [RV.cell 6 5 true, RV.tmp 7] := by kernel_rfl
theorem x35 : cmpF Tryd.prog Tryd.f35 = some (expand T35 12 X35) := by kernel_rfl
def T37n0 : XC := .seq (.ops [XS.mk (some 8) none (XI.k (XK.mov (Operand.tmp 0))), XS.mk (some 9) none (XI.k (XK.nilc (Operand.tmp 8))), XS.mk (some 10) none (XI.k (XK.fld 1 (Operand.tmp 9))), XS.mk (some 4) none (XI.k (XK.mov (Operand.tmp 10)))]) (.ret)
def T37n1 : XC := .seq (.ops [XS.mk (some 13) none (XI.k (XK.mov (Operand.tmp 0))), XS.mk (some 14) none (XI.k (XK.nilc (Operand.tmp 13))), XS.mk (some 15) none (XI.k (XK.fld 2 (Operand.tmp 14))), XS.mk (some 4) none (XI.k (XK.mov (Operand.tmp 15)))]) (.ret)
def T37n2 : XC := .seq (.ops [XS.mk (some 18) none (XI.k (XK.mov (Operand.tmp 0))), XS.mk (some 19) none (XI.k (XK.nilc (Operand.tmp 18))), XS.mk (some 20) none (XI.k (XK.fld 3 (Operand.tmp 19))), XS.mk (some 4) none (XI.k (XK.mov (Operand.tmp 20)))]) (.ret)
def T37n3 : XC := .seq (.ops [XS.mk (some 23) none (XI.k (XK.mov (Operand.tmp 0))), XS.mk (some 24) none (XI.k (XK.nilc (Operand.tmp 23))), XS.mk (some 25) none (XI.k (XK.fld 4 (Operand.tmp 24))), XS.mk (some 4) none (XI.k (XK.mov (Operand.tmp 25)))]) (.ret)
def T37n4 : XC := .seq (.ops [XS.mk (some 22) none (XI.k (XK.cmp BinOp.eql IntKind.u8 (Operand.tmp 5) (Operand.const (Value.int IntKind.u8 73)))), XS.mk (some 21) none (XI.k (XK.mov (Operand.tmp 22)))]) (.cond (Operand.tmp 21) (.ref 3) (.skip))
def T37n5 : XC := .seq (.ops [XS.mk (some 17) none (XI.k (XK.cmp BinOp.eql IntKind.u8 (Operand.tmp 5) (Operand.const (Value.int IntKind.u8 67)))), XS.mk (some 16) none (XI.k (XK.mov (Operand.tmp 17)))]) (.cond (Operand.tmp 16) (.ref 2) (.ref 4))
def T37n6 : XC := .seq (.ops [XS.mk (some 12) none (XI.k (XK.cmp BinOp.eql IntKind.u8 (Operand.tmp 5) (Operand.const (Value.int IntKind.u8 66)))), XS.mk (some 11) none (XI.k (XK.mov (Operand.tmp 12)))]) (.cond (Operand.tmp 11) (.ref 1) (.ref 5))
def T37n7 : XC := .blk 0 (.seq (.ops [XS.mk (some 7) none (XI.k (XK.cmp BinOp.eql IntKind.u8 (Operand.tmp 5) (Operand.const (Value.int IntKind.u8 65)))), XS.mk (some 6) none (XI.k (XK.mov (Operand.tmp 7)))]) (.cond (Operand.tmp 6) (.ref 0) (.ref 6)))
def T37n8 : XC := .seq (.ops [XS.mk (some 26) none (XI.k (XK.mov (Operand.tmp 0))), XS.mk (some 27) none (XI.k (XK.nilc (Operand.tmp 26))), XS.mk (some 28) none (XI.k (XK.fld 0 (Operand.tmp 27))), XS.mk (some 4) none (XI.k (XK.mov (Operand.tmp 28)))]) (.ret)
def T37n9 : XC := .seq (.seq (.ops [XS.mk (some 5) none (XI.k (XK.mov (Operand.tmp 1)))]) (.ref 7)) (.ref 8)
def T37 : Nat → XC
  | 0 => T37n0
  | 1 => T37n1
  | 2 => T37n2
  | 3 => T37n3
  | 4 => T37n4
  | 5 => T37n5
  | 6 => T37n6
  | 7 => T37n7
  | 8 => T37n8
  | 9 => T37n9
  | _ => .skip
theorem t37n0 : T37 0 = T37n0 := rfl
theorem t37n1 : T37 1 = T37n1 := rfl
theorem t37n2 : T37 2 = T37n2 := rfl
theorem t37n3 : T37 3 = T37n3 := rfl
theorem t37n4 : T37 4 = T37n4 := rfl
theorem t37n5 : T37 5 = T37n5 := rfl
theorem t37n6 : T37 6 = T37n6 := rfl
theorem t37n7 : T37 7 = T37n7 := rfl
theorem t37n8 : T37 8 = T37n8 := rfl
theorem t37n9 : T37 9 = T37n9 := rfl
def X37 : XC := .seq (.ops [XS.mk (some 4) none (XI.k (XK.mov (Operand.const (Value.pointer none))))]) (.ref 9)
abbrev K37 : List Nat := [0, 1, 4, 5, 6, 11, 16, 21]
theorem n37 : Tryd.f37.ntmps = 29 := by kernel_rfl
theorem r37 : resT Tryd.f37.results.toList = some [4] := by kernel_rfl
theorem x37 : cmpF Tryd.prog Tryd.f37 = some (expand T37 11 X37) := by kernel_rfl
def T40n0 : XC := .seq (.ops [XS.mk (some 2) none (XI.k (XK.mov (Operand.const (Value.bool false))))]) (.ret)
def T40n1 : XC := .seq (.ops [XS.mk (some 2) none (XI.k (XK.mov (Operand.const (Value.bool false))))]) (.ret)
def T40n2 : XC := .seq (.ops [XS.mk (some 15) none (XI.k (XK.fld 0 (Operand.tmp 1))), XS.mk (some 16) none (XI.k (XK.load [CK.int IntKind.i64] false (Operand.tmp 15))), XS.mk (some 17) none (XI.k (XK.idxA 19 2 (Operand.global 0) (Operand.tmp 16))), XS.mk (some 18) none (XI.k (XK.fld 1 (Operand.tmp 17))), XS.mk (some 19) none (XI.k (XK.load [CK.str] false (Operand.tmp 18))), XS.mk (some 20) none (XI.k (XK.mov (Operand.tmp 4))), XS.mk (some 21) none (XI.call 32 [Operand.tmp 19, Operand.tmp 20]), XS.mk (some 22) none (XI.k (XK.cmp BinOp.lss IntKind.i64 (Operand.tmp 21) (Operand.const (Value.int IntKind.i64 0)))), XS.mk (some 23) none (XI.k (XK.mov (Operand.tmp 22))), XS.mk (some 24) (some (23, true)) (XI.k (XK.mov (Operand.tmp 4))), XS.mk (some 25) (some (23, true)) (XI.call 37 [Operand.tmp 1, Operand.tmp 24]), XS.mk (some 26) (some (23, true)) (XI.k (XK.nilc (Operand.tmp 25))), XS.mk (some 27) (some (23, true)) (XI.k (XK.load [CK.int IntKind.i64] false (Operand.tmp 26))), XS.mk (some 28) (some (23, true)) (XI.k (XK.cmp BinOp.neq IntKind.i64 (Operand.tmp 27) (Operand.const (Value.int IntKind.i64 0)))), XS.mk (some 29) none (XI.k (XK.pick (Operand.tmp 23) (Operand.tmp 28) (Operand.const (Value.bool false))))]) (.cond (Operand.tmp 29) (.ref 1) (.skip))
def T40n3 : XC := .seq (.blk 1 (.seq (.ops [XS.mk (some 13) none (XI.k (XK.idx 1 (Operand.tmp 9) (Operand.tmp 11))), XS.mk (some 14) none (XI.k (XK.load [CK.int IntKind.u8] false (Operand.tmp 13))), XS.mk (some 4) none (XI.k (XK.mov (Operand.tmp 14)))]) (.ref 2))) (.ops [XS.mk (some 30) none (XI.k (XK.arith BinOp.add IntKind.i64 (Operand.tmp 11) (Operand.const (Value.int IntKind.i64 1)))), XS.mk (some 11) none (XI.k (XK.mov (Operand.tmp 30)))])
def T40n4 : XC := .seq (.cond (Operand.tmp 12) (.skip) (.exit 0)) (.ref 3)
def T40n5 : XC := .seq (.ops [XS.mk (some 12) none (XI.k (XK.cmp BinOp.lss IntKind.i64 (Operand.tmp 11) (Operand.tmp 10)))]) (.ref 4)
def T40n6 : XC := .seq (.ops [XS.mk (some 2) none (XI.k (XK.mov (Operand.const (Value.bool true))))]) (.ret)
def T40n7 : XC := .seq (.seq (.ops [XS.mk (some 8) none (XI.k (XK.buildS 5 4 1 [Value.int IntKind.u8 0] [(0, Operand.const (Value.int IntKind.u8 65)), (1, Operand.const (Value.int IntKind.u8 66)), (2, Operand.const (Value.int IntKind.u8 67)), (3, Operand.const (Value.int IntKind.u8 73))])), XS.mk (some 9) none (XI.k (XK.mrk (Operand.tmp 8))), XS.mk (some 10) none (XI.k (XK.lenS (Operand.tmp 9))), XS.mk (some 11) none (XI.k (XK.mov (Operand.const (Value.int IntKind.i64 0))))]) (.blk 0 (.loop (.ref 5)))) (.ref 6)
def T40n8 : XC := .seq (.seq (.ops [XS.mk (some 5) none (XI.k (XK.load [CK.int IntKind.i64, CK.int IntKind.i64, CK.int IntKind.i64, CK.int IntKind.i64, CK.int IntKind.i64] true (Operand.tmp 1))), XS.mk (some 6) none (XI.call 12 [Operand.tmp 5]), XS.mk (some 7) none (XI.k (XK.not (Operand.tmp 6)))]) (.cond (Operand.tmp 7) (.ref 0) (.skip))) (.ref 7)
def T40 : Nat → XC
  | 0 => T40n0
  | 1 => T40n1
  | 2 => T40n2
  | 3 => T40n3
  | 4 => T40n4
  | 5 => T40n5
  | 6 => T40n6
  | 7 => T40n7
  | 8 => T40n8
  | _ => .skip
theorem t40n0 : T40 0 = T40n0 := rfl
theorem t40n1 : T40 1 = T40n1 := rfl
theorem t40n2 : T40 2 = T40n2 := rfl
theorem t40n3 : T40 3 = T40n3 := rfl
theorem t40n4 : T40 4 = T40n4 := rfl
theorem t40n5 : T40 5 = T40n5 := rfl
theorem t40n6 : T40 6 = T40n6 := rfl
theorem t40n7 : T40 7 = T40n7 := rfl
theorem t40n8 : T40 8 = T40n8 := rfl
def X40 : XC := .seq (.ops [XS.mk (some 1) none (XI.k (XK.box 23 5 (Operand.tmp 0))), XS.mk (some 2) none (XI.k (XK.mov (Operand.const (Value.bool false))))]) (.ref 8)
abbrev K40 : List Nat := [0, 1, 2, 4, 7, 9, 10, 11, 12, 29]
theorem n40 : Tryd.f40.ntmps = 31 := by kernel_rfl
theorem r40 : resT Tryd.f40.results.toList = some [2] := by kernel_rfl
theorem x40 : cmpF Tryd.prog Tryd.f40 = some (expand T40 10 X40) := by kernel_rfl
def T42n0 : XC := .ops [XS.mk (some 24) none (XI.k (XK.mov (Operand.tmp 6))), XS.mk (some 25) none (XI.k (XK.neg IntKind.i64 (Operand.tmp 24))), XS.mk (some 6) none (XI.k (XK.mov (Operand.tmp 25)))]
def T42n1 : XC := .ops [XS.mk (some 33) none (XI.k (XK.mov (Operand.tmp 4))), XS.mk (some 34) none (XI.k (XK.div BinOp.quo IntKind.i64 (Operand.tmp 33) (Operand.const (Value.int IntKind.i64 10)))), XS.mk (some 4) none (XI.k (XK.mov (Operand.tmp 34)))]
def T42n2 : XC := .seq (.ops [XS.mk (some 26) none (XI.k (XK.mov (Operand.tmp 6))), XS.mk (some 27) none (XI.k (XK.arith BinOp.add IntKind.i64 (Operand.const (Value.int IntKind.i64 48)) (Operand.tmp 26))), XS.mk (some 28) none (XI.k (XK.conv IntKind.u8 (Operand.tmp 27))), XS.mk (some 29) none (XI.k (XK.buildS 5 1 1 [Value.int IntKind.u8 0] [(0, Operand.tmp 28)])), XS.mk (some 30) none (XI.k (XK.b2s (Operand.tmp 29))), XS.mk (some 31) none (XI.k (XK.mov (Operand.tmp 3))), XS.mk (some 32) none (XI.k (XK.cat (Operand.tmp 30) (Operand.tmp 31))), XS.mk (some 3) none (XI.k (XK.mov (Operand.tmp 32)))]) (.ref 1)
def T42n3 : XC := .seq (.seq (.ops [XS.mk (some 22) none (XI.k (XK.mov (Operand.tmp 6))), XS.mk (some 23) none (XI.k (XK.cmp BinOp.lss IntKind.i64 (Operand.tmp 22) (Operand.const (Value.int IntKind.i64 0))))]) (.cond (Operand.tmp 23) (.ref 0) (.skip))) (.ref 2)
def T42n4 : XC := .ops [XS.mk (some 18) none (XI.k (XK.mov (Operand.tmp 5))), XS.mk (some 19) none (XI.k (XK.arith BinOp.add IntKind.i64 (Operand.tmp 18) (Operand.const (Value.int IntKind.i64 1)))), XS.mk (some 5) none (XI.k (XK.mov (Operand.tmp 19)))]
def T42n5 : XC := .seq (.blk 1 (.seq (.ops [XS.mk (some 20) none (XI.k (XK.mov (Operand.tmp 4))), XS.mk (some 21) none (XI.k (XK.div BinOp.rem IntKind.i64 (Operand.tmp 20) (Operand.const (Value.int IntKind.i64 10)))), XS.mk (some 6) none (XI.k (XK.mov (Operand.tmp 21)))]) (.ref 3))) (.ref 4)
def T42n6 : XC := .seq (.seq (.ops [XS.mk (some 8) none (XI.k (XK.mov (Operand.tmp 5))), XS.mk (some 9) none (XI.k (XK.cmp BinOp.lss IntKind.i64 (Operand.tmp 8) (Operand.const (Value.int IntKind.i64 20)))), XS.mk (some 10) none (XI.k (XK.mov (Operand.tmp 9))), XS.mk (some 11) (some (10, true)) (XI.k (XK.mov (Operand.tmp 5))), XS.mk (some 12) (some (10, true)) (XI.k (XK.cmp BinOp.eql IntKind.i64 (Operand.tmp 11) (Operand.const (Value.int IntKind.i64 0)))), XS.mk (some 13) (some (10, true)) (XI.k (XK.mov (Operand.tmp 12))), XS.mk (some 14) (some (13, false)) (XI.k (XK.mov (Operand.tmp 4))), XS.mk (some 15) (some (13, false)) (XI.k (XK.cmp BinOp.neq IntKind.i64 (Operand.tmp 14) (Operand.const (Value.int IntKind.i64 0)))), XS.mk (some 16) (some (10, true)) (XI.k (XK.pick (Operand.tmp 13) (Operand.const (Value.bool true)) (Operand.tmp 15))), XS.mk (some 17) none (XI.k (XK.pick (Operand.tmp 10) (Operand.tmp 16) (Operand.const (Value.bool false))))]) (.cond (Operand.tmp 17) (.skip) (.exit 0))) (.ref 5)
def T42n7 : XC := .seq (.ops [XS.mk (some 37) none (XI.k (XK.mov (Operand.tmp 3))), XS.mk (some 38) none (XI.k (XK.cat (Operand.const (Value.string (ByteArray.mk (Array.mk [UInt8.ofNat 45])))) (Operand.tmp 37))), XS.mk (some 2) none (XI.k (XK.mov (Operand.tmp 38)))]) (.ret)
def T42n8 : XC := .seq (.ops [XS.mk (some 39) none (XI.k (XK.mov (Operand.tmp 3))), XS.mk (some 2) none (XI.k (XK.mov (Operand.tmp 39)))]) (.ret)
def T42n9 : XC := .seq (.seq (.ops [XS.mk (some 35) none (XI.k (XK.mov (Operand.tmp 0))), XS.mk (some 36) none (XI.k (XK.cmp BinOp.lss IntKind.i64 (Operand.tmp 35) (Operand.const (Value.int IntKind.i64 0))))]) (.cond (Operand.tmp 36) (.ref 7) (.skip))) (.ref 8)
def T42n10 : XC := .seq (.seq (.ops [XS.mk (some 5) none (XI.k (XK.mov (Operand.const (Value.int IntKind.i64 0))))]) (.blk 0 (.loop (.ref 6)))) (.ref 9)
def T42n11 : XC := .seq (.ops [XS.mk (some 7) none (XI.k (XK.mov (Operand.tmp 0))), XS.mk (some 4) none (XI.k (XK.mov (Operand.tmp 7)))]) (.ref 10)
def T42n12 : XC := .seq (.ops [XS.mk (some 3) none (XI.k (XK.mov (Operand.const (Value.string (ByteArray.mk (Array.mk []))))))]) (.ref 11)
def T42 : Nat → XC
  | 0 => T42n0
  | 1 => T42n1
  | 2 => T42n2
  | 3 => T42n3
  | 4 => T42n4
  | 5 => T42n5
  | 6 => T42n6
  | 7 => T42n7
  | 8 => T42n8
  | 9 => T42n9
  | 10 => T42n10
  | 11 => T42n11
  | 12 => T42n12
  | _ => .skip
theorem t42n0 : T42 0 = T42n0 := rfl
theorem t42n1 : T42 1 = T42n1 := rfl
theorem t42n2 : T42 2 = T42n2 := rfl
theorem t42n3 : T42 3 = T42n3 := rfl
theorem t42n4 : T42 4 = T42n4 := rfl
theorem t42n5 : T42 5 = T42n5 := rfl
theorem t42n6 : T42 6 = T42n6 := rfl
theorem t42n7 : T42 7 = T42n7 := rfl
theorem t42n8 : T42 8 = T42n8 := rfl
theorem t42n9 : T42 9 = T42n9 := rfl
theorem t42n10 : T42 10 = T42n10 := rfl
theorem t42n11 : T42 11 = T42n11 := rfl
theorem t42n12 : T42 12 = T42n12 := rfl
def X42 : XC := .seq (.ops [XS.mk (some 2) none (XI.k (XK.mov (Operand.const (Value.string (ByteArray.mk (Array.mk []))))))]) (.ref 12)
abbrev K42 : List Nat := [0, 2, 3, 4, 5, 6, 17, 23, 36]
theorem n42 : Tryd.f42.ntmps = 40 := by kernel_rfl
theorem r42 : resT Tryd.f42.results.toList = some [2] := by kernel_rfl
theorem x42 : cmpF Tryd.prog Tryd.f42 = some (expand T42 14 X42) := by kernel_rfl
end Go.Proofs.YtpoopljpodkdcaaDoor
