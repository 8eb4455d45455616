/- Printed by program: the small code of functions, and that it is theirs. -/
import Derived.Test.YtijenbodckcbcaaDoorSxStill
import Derived.Test.YtijenbodckcbcaaDoorProg
import Derived.KernelRfl
set_option linter.unusedSimpArgs false
set_option linter.unusedVariables false
set_option linter.unnecessarySimpa false
namespace Go.Proofs.YtijenbodckcbcaaDoor
open Go Go.Sx
set_option maxRecDepth 100000
def T3n0 : XC := .seq (.ops [XS.mk (some 2) none (XI.k (XK.mov (Operand.const (Value.bool true))))]) (.ret)
def T3n1 : XC := .seq (.ops [XS.mk (some 2) none (XI.k (XK.mov (Operand.const (Value.bool false))))]) (.ret)
def T3n2 : XC := .ops [XS.mk (some 28) none (XI.k (XK.mov (Operand.tmp 3))), XS.mk (some 29) none (XI.k (XK.mov (Operand.tmp 28))), XS.mk (some 30) (some (29, true)) (XI.k (XK.mov (Operand.tmp 0))), XS.mk (some 31) (some (29, true)) (XI.k (XK.mov (Operand.tmp 4))), XS.mk (some 32) (some (29, true)) (XI.k (XK.idx 2 (Operand.tmp 30) (Operand.tmp 31))), XS.mk (some 33) (some (29, true)) (XI.k (XK.fld 0 (Operand.tmp 32))), XS.mk (some 34) (some (29, true)) (XI.k (XK.load [CK.int IntKind.i64] false (Operand.tmp 33))), XS.mk (some 35) (some (29, true)) (XI.k (XK.cmp BinOp.lss IntKind.i64 (Operand.tmp 34) (Operand.const (Value.int IntKind.i64 1)))), XS.mk (some 36) (some (29, true)) (XI.k (XK.mov (Operand.tmp 35))), XS.mk (some 37) (some (36, false)) (XI.k (XK.mov (Operand.tmp 0))), XS.mk (some 38) (some (36, false)) (XI.k (XK.mov (Operand.tmp 4))), XS.mk (some 39) (some (36, false)) (XI.k (XK.idx 2 (Operand.tmp 37) (Operand.tmp 38))), XS.mk (some 40) (some (36, false)) (XI.k (XK.fld 0 (Operand.tmp 39))), XS.mk (some 41) (some (36, false)) (XI.k (XK.load [CK.int IntKind.i64] false (Operand.tmp 40))), XS.mk (some 42) (some (36, false)) (XI.k (XK.cmp BinOp.gtr IntKind.i64 (Operand.tmp 41) (Operand.const (Value.int IntKind.i64 6)))), XS.mk (some 43) (some (29, true)) (XI.k (XK.pick (Operand.tmp 36) (Operand.const (Value.bool true)) (Operand.tmp 42))), XS.mk (some 44) none (XI.k (XK.pick (Operand.tmp 29) (Operand.tmp 43) (Operand.const (Value.bool false)))), XS.mk (some 3) none (XI.k (XK.mov (Operand.tmp 44)))]
def T3n3 : XC := .seq (.seq (.ops [XS.mk (some 25) none (XI.k (XK.mov (Operand.tmp 5))), XS.mk (some 26) none (XI.k (XK.mov (Operand.tmp 6))), XS.mk (some 27) none (XI.k (XK.eqs BinOp.neq (Operand.tmp 25) (Operand.tmp 26)))]) (.cond (Operand.tmp 27) (.ref 1) (.skip))) (.ref 2)
def T3n4 : XC := .seq (.ops [XS.mk (some 20) none (XI.k (XK.mov (Operand.tmp 0))), XS.mk (some 21) none (XI.k (XK.mov (Operand.tmp 4))), XS.mk (some 22) none (XI.k (XK.idx 2 (Operand.tmp 20) (Operand.tmp 21))), XS.mk (some 23) none (XI.k (XK.load [CK.int IntKind.i64, CK.int IntKind.i64] true (Operand.tmp 22))), XS.mk (some 24) none (XI.call 5 [Operand.tmp 23]), XS.mk (some 6) none (XI.k (XK.mov (Operand.tmp 24)))]) (.ref 3)
def T3n5 : XC := .seq (.ops [XS.mk (some 15) none (XI.k (XK.mov (Operand.tmp 0))), XS.mk (some 16) none (XI.k (XK.mov (Operand.tmp 4))), XS.mk (some 17) none (XI.k (XK.idx 2 (Operand.tmp 15) (Operand.tmp 16))), XS.mk (some 18) none (XI.k (XK.load [CK.int IntKind.i64, CK.int IntKind.i64] true (Operand.tmp 17))), XS.mk (some 19) none (XI.call 4 [Operand.tmp 18]), XS.mk (some 5) none (XI.k (XK.mov (Operand.tmp 19)))]) (.ref 4)
def T3n6 : XC := .seq (.blk 1 (.seq (.ops [XS.mk (some 14) none (XI.k (XK.mov (Operand.tmp 12))), XS.mk (some 4) none (XI.k (XK.mov (Operand.tmp 14)))]) (.ref 5))) (.ops [XS.mk (some 45) none (XI.k (XK.arith BinOp.add IntKind.i64 (Operand.tmp 12) (Operand.const (Value.int IntKind.i64 1)))), XS.mk (some 12) none (XI.k (XK.mov (Operand.tmp 45)))])
def T3n7 : XC := .seq (.cond (Operand.tmp 13) (.skip) (.exit 0)) (.ref 6)
def T3n8 : XC := .seq (.ops [XS.mk (some 13) none (XI.k (XK.cmp BinOp.lss IntKind.i64 (Operand.tmp 12) (Operand.tmp 11)))]) (.ref 7)
def T3n9 : XC := .seq (.ops [XS.mk (some 46) none (XI.k (XK.mov (Operand.tmp 0))), XS.mk (some 47) none (XI.call 6 [Operand.tmp 46]), XS.mk (some 48) none (XI.k (XK.mov (Operand.tmp 3))), XS.mk (some 49) none (XI.k (XK.eqb false (Operand.tmp 47) (Operand.tmp 48))), XS.mk (some 2) none (XI.k (XK.mov (Operand.tmp 49)))]) (.ret)
def T3n10 : XC := .seq (.seq (.ops [XS.mk (some 10) none (XI.k (XK.mov (Operand.tmp 0))), XS.mk (some 11) none (XI.k (XK.lenS (Operand.tmp 10))), XS.mk (some 12) none (XI.k (XK.mov (Operand.const (Value.int IntKind.i64 0))))]) (.blk 0 (.loop (.ref 8)))) (.ref 9)
def T3n11 : XC := .seq (.ops [XS.mk (some 3) none (XI.k (XK.mov (Operand.const (Value.bool true))))]) (.ref 10)
def T3n12 : XC := .seq (.seq (.ops [XS.mk (some 7) none (XI.k (XK.mov (Operand.tmp 0))), XS.mk (some 8) none (XI.k (XK.lenS (Operand.tmp 7))), XS.mk (some 9) none (XI.k (XK.cmp BinOp.gtr IntKind.i64 (Operand.tmp 8) (Operand.const (Value.int IntKind.i64 200))))]) (.cond (Operand.tmp 9) (.ref 0) (.skip))) (.ref 11)
def T3 : Nat → XC
  | 0 => T3n0
  | 1 => T3n1
  | 2 => T3n2
  | 3 => T3n3
  | 4 => T3n4
  | 5 => T3n5
  | 6 => T3n6
  | 7 => T3n7
  | 8 => T3n8
  | 9 => T3n9
  | 10 => T3n10
  | 11 => T3n11
  | 12 => T3n12
  | _ => .skip
theorem t3n0 : T3 0 = T3n0 := rfl
theorem t3n1 : T3 1 = T3n1 := rfl
theorem t3n2 : T3 2 = T3n2 := rfl
theorem t3n3 : T3 3 = T3n3 := rfl
theorem t3n4 : T3 4 = T3n4 := rfl
theorem t3n5 : T3 5 = T3n5 := rfl
theorem t3n6 : T3 6 = T3n6 := rfl
theorem t3n7 : T3 7 = T3n7 := rfl
theorem t3n8 : T3 8 = T3n8 := rfl
theorem t3n9 : T3 9 = T3n9 := rfl
theorem t3n10 : T3 10 = T3n10 := rfl
theorem t3n11 : T3 11 = T3n11 := rfl
theorem t3n12 : T3 12 = T3n12 := rfl
def X3 : XC := .seq (.ops [XS.mk (some 2) none (XI.k (XK.mov (Operand.const (Value.bool false))))]) (.ref 12)
abbrev K3 : List Nat := [0, 2, 3, 4, 5, 6, 9, 11, 12, 13, 27]
theorem n3 : Tryd.f3.ntmps = 50 := by kernel_rfl
theorem r3 : resT Tryd.f3.results.toList = some [2] := by kernel_rfl
theorem x3 : cmpF Tryd.prog Tryd.f3 = some (expand T3 14 X3) := by kernel_rfl
def T4n0 : XC := .ops [XS.mk (some 14) none (XI.k (XK.fld 0 (Operand.tmp 1))), XS.mk (some 15) none (XI.k (XK.load [CK.int IntKind.i64] false (Operand.tmp 14))), XS.mk (some 16) none (XI.k (XK.idxA 9 1 (Operand.global 0) (Operand.tmp 15))), XS.mk (some 17) none (XI.k (XK.load [CK.str] false (Operand.tmp 16))), XS.mk (some 3) none (XI.k (XK.mov (Operand.tmp 17)))]
def T4n1 : XC := .seq (.ops [XS.mk (some 18) none (XI.k (XK.mov (Operand.tmp 3))), XS.mk (some 19) none (XI.k (XK.cat (Operand.tmp 18) (Operand.const (Value.string (ByteArray.mk (Array.mk [UInt8.ofNat 32, UInt8.ofNat 97, UInt8.ofNat 116, UInt8.ofNat 32])))))), XS.mk (some 20) none (XI.k (XK.fld 1 (Operand.tmp 1))), XS.mk (some 21) none (XI.k (XK.load [CK.int IntKind.i64] false (Operand.tmp 20))), XS.mk (some 22) none (XI.call 7 [Operand.tmp 21]), XS.mk (some 23) none (XI.k (XK.cat (Operand.tmp 19) (Operand.tmp 22))), XS.mk (some 2) none (XI.k (XK.mov (Operand.tmp 23)))]) (.ret)
def T4n2 : XC := .seq (.seq (.ops [XS.mk (some 6) none (XI.k (XK.fld 0 (Operand.tmp 1))), XS.mk (some 7) none (XI.k (XK.load [CK.int IntKind.i64] false (Operand.tmp 6))), XS.mk (some 8) none (XI.k (XK.cmp BinOp.gtr IntKind.i64 (Operand.tmp 7) (Operand.const (Value.int IntKind.i64 0)))), XS.mk (some 9) none (XI.k (XK.mov (Operand.tmp 8))), XS.mk (some 10) (some (9, true)) (XI.k (XK.fld 0 (Operand.tmp 1))), XS.mk (some 11) (some (9, true)) (XI.k (XK.load [CK.int IntKind.i64] false (Operand.tmp 10))), XS.mk (some 12) (some (9, true)) (XI.k (XK.cmp BinOp.lss IntKind.i64 (Operand.tmp 11) (Operand.const (Value.int IntKind.i64 9)))), XS.mk (some 13) none (XI.k (XK.pick (Operand.tmp 9) (Operand.tmp 12) (Operand.const (Value.bool false))))]) (.cond (Operand.tmp 13) (.ref 0) (.skip))) (.ref 1)
def T4n3 : XC := .seq (.ops [XS.mk (some 4) none (XI.k (XK.idxA 9 1 (Operand.global 0) (Operand.const (Value.int IntKind.i64 0)))), XS.mk (some 5) none (XI.k (XK.load [CK.str] false (Operand.tmp 4))), XS.mk (some 3) none (XI.k (XK.mov (Operand.tmp 5)))]) (.ref 2)
def T4 : Nat → XC
  | 0 => T4n0
  | 1 => T4n1
  | 2 => T4n2
  | 3 => T4n3
  | _ => .skip
theorem t4n0 : T4 0 = T4n0 := rfl
theorem t4n1 : T4 1 = T4n1 := rfl
theorem t4n2 : T4 2 = T4n2 := rfl
theorem t4n3 : T4 3 = T4n3 := rfl
def X4 : XC := .seq (.ops [XS.mk (some 1) none (XI.k (XK.box 25 2 (Operand.tmp 0))), XS.mk (some 2) none (XI.k (XK.mov (Operand.const (Value.string (ByteArray.mk (Array.mk []))))))]) (.ref 3)
abbrev K4 : List Nat := [0, 1, 2, 3, 13]
theorem n4 : Tryd.f4.ntmps = 24 := by kernel_rfl
theorem r4 : resT Tryd.f4.results.toList = some [2] := by kernel_rfl
theorem x4 : cmpF Tryd.prog Tryd.f4 = some (expand T4 5 X4) := by kernel_rfl
def T5n0 : XC := .ops [XS.mk (some 15) none (XI.k (XK.fld 0 (Operand.tmp 1))), XS.mk (some 16) none (XI.k (XK.load [CK.int IntKind.i64] false (Operand.tmp 15))), XS.mk (some 4) none (XI.k (XK.mov (Operand.tmp 16)))]
def T5n1 : XC := .seq (.ops [XS.mk (some 20) none (XI.k (XK.mov (Operand.tmp 3))), XS.mk (some 21) none (XI.k (XK.mov (Operand.tmp 4))), XS.mk (some 22) none (XI.k (XK.idx 1 (Operand.tmp 20) (Operand.tmp 21))), XS.mk (some 23) none (XI.k (XK.load [CK.str] false (Operand.tmp 22))), XS.mk (some 24) none (XI.k (XK.cat (Operand.tmp 23) (Operand.const (Value.string (ByteArray.mk (Array.mk [UInt8.ofNat 32, UInt8.ofNat 97, UInt8.ofNat 116, UInt8.ofNat 32])))))), XS.mk (some 25) none (XI.k (XK.mov (Operand.tmp 5))), XS.mk (some 26) none (XI.k (XK.cat (Operand.tmp 24) (Operand.tmp 25))), XS.mk (some 2) none (XI.k (XK.mov (Operand.tmp 26)))]) (.ret)
def T5n2 : XC := .seq (.ops [XS.mk (some 17) none (XI.k (XK.fld 1 (Operand.tmp 1))), XS.mk (some 18) none (XI.k (XK.load [CK.int IntKind.i64] false (Operand.tmp 17))), XS.mk (some 19) none (XI.call 8 [Operand.tmp 18]), XS.mk (some 5) none (XI.k (XK.mov (Operand.tmp 19)))]) (.ref 1)
def T5n3 : XC := .seq (.seq (.ops [XS.mk (some 7) none (XI.k (XK.fld 0 (Operand.tmp 1))), XS.mk (some 8) none (XI.k (XK.load [CK.int IntKind.i64] false (Operand.tmp 7))), XS.mk (some 9) none (XI.k (XK.cmp BinOp.gtr IntKind.i64 (Operand.tmp 8) (Operand.const (Value.int IntKind.i64 0)))), XS.mk (some 10) none (XI.k (XK.mov (Operand.tmp 9))), XS.mk (some 11) (some (10, true)) (XI.k (XK.fld 0 (Operand.tmp 1))), XS.mk (some 12) (some (10, true)) (XI.k (XK.load [CK.int IntKind.i64] false (Operand.tmp 11))), XS.mk (some 13) (some (10, true)) (XI.k (XK.cmp BinOp.lss IntKind.i64 (Operand.tmp 12) (Operand.const (Value.int IntKind.i64 9)))), XS.mk (some 14) none (XI.k (XK.pick (Operand.tmp 10) (Operand.tmp 13) (Operand.const (Value.bool false))))]) (.cond (Operand.tmp 14) (.ref 0) (.skip))) (.ref 2)
def T5n4 : XC := .seq (.ops [XS.mk (some 4) none (XI.k (XK.mov (Operand.const (Value.int IntKind.i64 0))))]) (.ref 3)
def T5n5 : XC := .seq (.ops [XS.mk (some 6) none (XI.k (XK.buildS 9 9 1 [Value.string (ByteArray.mk (Array.mk []))] [(0, Operand.const (Value.string (ByteArray.mk (Array.mk [UInt8.ofNat 110, UInt8.ofNat 111, UInt8.ofNat 110, UInt8.ofNat 101])))), (1, Operand.const (Value.string (ByteArray.mk (Array.mk [UInt8.ofNat 105, UInt8.ofNat 108, UInt8.ofNat 108, UInt8.ofNat 101, UInt8.ofNat 103, UInt8.ofNat 97, UInt8.ofNat 108])))), (2, Operand.const (Value.string (ByteArray.mk (Array.mk [UInt8.ofNat 101, UInt8.ofNat 110, UInt8.ofNat 100])))), (3, Operand.const (Value.string (ByteArray.mk (Array.mk [UInt8.ofNat 98, UInt8.ofNat 101, UInt8.ofNat 103, UInt8.ofNat 105, UInt8.ofNat 110])))), (4, Operand.const (Value.string (ByteArray.mk (Array.mk [UInt8.ofNat 104, UInt8.ofNat 97, UInt8.ofNat 108, UInt8.ofNat 116])))), (5, Operand.const (Value.string (ByteArray.mk (Array.mk [UInt8.ofNat 111, UInt8.ofNat 117, UInt8.ofNat 116])))), (6, Operand.const (Value.string (ByteArray.mk (Array.mk [UInt8.ofNat 103, UInt8.ofNat 111, UInt8.ofNat 101, UInt8.ofNat 115])))), (7, Operand.const (Value.string (ByteArray.mk (Array.mk [UInt8.ofNat 117, UInt8.ofNat 110, UInt8.ofNat 115, UInt8.ofNat 101, UInt8.ofNat 116])))), (8, Operand.const (Value.string (ByteArray.mk (Array.mk [UInt8.ofNat 110, UInt8.ofNat 101, UInt8.ofNat 118, UInt8.ofNat 101, UInt8.ofNat 114]))))])), XS.mk (some 3) none (XI.k (XK.mov (Operand.tmp 6)))]) (.ref 4)
def T5 : Nat → XC
  | 0 => T5n0
  | 1 => T5n1
  | 2 => T5n2
  | 3 => T5n3
  | 4 => T5n4
  | 5 => T5n5
  | _ => .skip
theorem t5n0 : T5 0 = T5n0 := rfl
theorem t5n1 : T5 1 = T5n1 := rfl
theorem t5n2 : T5 2 = T5n2 := rfl
theorem t5n3 : T5 3 = T5n3 := rfl
theorem t5n4 : T5 4 = T5n4 := rfl
theorem t5n5 : T5 5 = T5n5 := rfl
def X5 : XC := .seq (.ops [XS.mk (some 1) none (XI.k (XK.box 25 2 (Operand.tmp 0))), XS.mk (some 2) none (XI.k (XK.mov (Operand.const (Value.string (ByteArray.mk (Array.mk []))))))]) (.ref 5)
abbrev K5 : List Nat := [0, 1, 2, 3, 4, 5, 14]
theorem n5 : Tryd.f5.ntmps = 27 := by kernel_rfl
theorem r5 : resT Tryd.f5.results.toList = some [2] := by kernel_rfl
theorem x5 : cmpF Tryd.prog Tryd.f5 = some (expand T5 7 X5) := by kernel_rfl
def T6n0 : XC := .seq (.ops [XS.mk (some 3) none (XI.k (XK.mov (Operand.tmp 0))), XS.mk (some 4) none (XI.call 9 [Operand.tmp 3, Operand.func 10]), XS.mk (some 5) none (XI.k (XK.not (Operand.tmp 4))), XS.mk (some 2) none (XI.k (XK.mov (Operand.tmp 5)))]) (.ret)
def T6 : Nat → XC
  | 0 => T6n0
  | _ => .skip
theorem t6n0 : T6 0 = T6n0 := rfl
def X6 : XC := .seq (.ops [XS.mk (some 2) none (XI.k (XK.mov (Operand.const (Value.bool false))))]) (.ref 0)
abbrev K6 : List Nat := [0, 2]
theorem n6 : Tryd.f6.ntmps = 6 := by kernel_rfl
theorem r6 : resT Tryd.f6.results.toList = some [2] := by kernel_rfl
theorem x6 : cmpF Tryd.prog Tryd.f6 = some (expand T6 2 X6) := by kernel_rfl
def T8n0 : XC := .ops [XS.mk (some 24) none (XI.k (XK.mov (Operand.tmp 6))), XS.mk (some 25) none (XI.k (XK.neg IntKind.i64 (Operand.tmp 24))), XS.mk (some 6) none (XI.k (XK.mov (Operand.tmp 25)))]
def T8n1 : XC := .ops [XS.mk (some 33) none (XI.k (XK.mov (Operand.tmp 4))), XS.mk (some 34) none (XI.k (XK.div BinOp.quo IntKind.i64 (Operand.tmp 33) (Operand.const (Value.int IntKind.i64 10)))), XS.mk (some 4) none (XI.k (XK.mov (Operand.tmp 34)))]
def T8n2 : XC := .seq (.ops [XS.mk (some 26) none (XI.k (XK.mov (Operand.tmp 6))), XS.mk (some 27) none (XI.k (XK.arith BinOp.add IntKind.i64 (Operand.const (Value.int IntKind.i64 48)) (Operand.tmp 26))), XS.mk (some 28) none (XI.k (XK.conv IntKind.u8 (Operand.tmp 27))), XS.mk (some 29) none (XI.k (XK.buildS 5 1 1 [Value.int IntKind.u8 0] [(0, Operand.tmp 28)])), XS.mk (some 30) none (XI.k (XK.b2s (Operand.tmp 29))), XS.mk (some 31) none (XI.k (XK.mov (Operand.tmp 3))), XS.mk (some 32) none (XI.k (XK.cat (Operand.tmp 30) (Operand.tmp 31))), XS.mk (some 3) none (XI.k (XK.mov (Operand.tmp 32)))]) (.ref 1)
def T8n3 : XC := .seq (.seq (.ops [XS.mk (some 22) none (XI.k (XK.mov (Operand.tmp 6))), XS.mk (some 23) none (XI.k (XK.cmp BinOp.lss IntKind.i64 (Operand.tmp 22) (Operand.const (Value.int IntKind.i64 0))))]) (.cond (Operand.tmp 23) (.ref 0) (.skip))) (.ref 2)
def T8n4 : XC := .ops [XS.mk (some 18) none (XI.k (XK.mov (Operand.tmp 5))), XS.mk (some 19) none (XI.k (XK.arith BinOp.add IntKind.i64 (Operand.tmp 18) (Operand.const (Value.int IntKind.i64 1)))), XS.mk (some 5) none (XI.k (XK.mov (Operand.tmp 19)))]
def T8n5 : XC := .seq (.blk 1 (.seq (.ops [XS.mk (some 20) none (XI.k (XK.mov (Operand.tmp 4))), XS.mk (some 21) none (XI.k (XK.div BinOp.rem IntKind.i64 (Operand.tmp 20) (Operand.const (Value.int IntKind.i64 10)))), XS.mk (some 6) none (XI.k (XK.mov (Operand.tmp 21)))]) (.ref 3))) (.ref 4)
def T8n6 : XC := .seq (.seq (.ops [XS.mk (some 8) none (XI.k (XK.mov (Operand.tmp 5))), XS.mk (some 9) none (XI.k (XK.cmp BinOp.lss IntKind.i64 (Operand.tmp 8) (Operand.const (Value.int IntKind.i64 20)))), XS.mk (some 10) none (XI.k (XK.mov (Operand.tmp 9))), XS.mk (some 11) (some (10, true)) (XI.k (XK.mov (Operand.tmp 5))), XS.mk (some 12) (some (10, true)) (XI.k (XK.cmp BinOp.eql IntKind.i64 (Operand.tmp 11) (Operand.const (Value.int IntKind.i64 0)))), XS.mk (some 13) (some (10, true)) (XI.k (XK.mov (Operand.tmp 12))), XS.mk (some 14) (some (13, false)) (XI.k (XK.mov (Operand.tmp 4))), XS.mk (some 15) (some (13, false)) (XI.k (XK.cmp BinOp.neq IntKind.i64 (Operand.tmp 14) (Operand.const (Value.int IntKind.i64 0)))), XS.mk (some 16) (some (10, true)) (XI.k (XK.pick (Operand.tmp 13) (Operand.const (Value.bool true)) (Operand.tmp 15))), XS.mk (some 17) none (XI.k (XK.pick (Operand.tmp 10) (Operand.tmp 16) (Operand.const (Value.bool false))))]) (.cond (Operand.tmp 17) (.skip) (.exit 0))) (.ref 5)
def T8n7 : XC := .seq (.ops [XS.mk (some 37) none (XI.k (XK.mov (Operand.tmp 3))), XS.mk (some 38) none (XI.k (XK.cat (Operand.const (Value.string (ByteArray.mk (Array.mk [UInt8.ofNat 45])))) (Operand.tmp 37))), XS.mk (some 2) none (XI.k (XK.mov (Operand.tmp 38)))]) (.ret)
def T8n8 : XC := .seq (.ops [XS.mk (some 39) none (XI.k (XK.mov (Operand.tmp 3))), XS.mk (some 2) none (XI.k (XK.mov (Operand.tmp 39)))]) (.ret)
def T8n9 : XC := .seq (.seq (.ops [XS.mk (some 35) none (XI.k (XK.mov (Operand.tmp 0))), XS.mk (some 36) none (XI.k (XK.cmp BinOp.lss IntKind.i64 (Operand.tmp 35) (Operand.const (Value.int IntKind.i64 0))))]) (.cond (Operand.tmp 36) (.ref 7) (.skip))) (.ref 8)
def T8n10 : XC := .seq (.seq (.ops [XS.mk (some 5) none (XI.k (XK.mov (Operand.const (Value.int IntKind.i64 0))))]) (.blk 0 (.loop (.ref 6)))) (.ref 9)
def T8n11 : XC := .seq (.ops [XS.mk (some 7) none (XI.k (XK.mov (Operand.tmp 0))), XS.mk (some 4) none (XI.k (XK.mov (Operand.tmp 7)))]) (.ref 10)
def T8n12 : XC := .seq (.ops [XS.mk (some 3) none (XI.k (XK.mov (Operand.const (Value.string (ByteArray.mk (Array.mk []))))))]) (.ref 11)
def T8 : Nat → XC
  | 0 => T8n0
  | 1 => T8n1
  | 2 => T8n2
  | 3 => T8n3
  | 4 => T8n4
  | 5 => T8n5
  | 6 => T8n6
  | 7 => T8n7
  | 8 => T8n8
  | 9 => T8n9
  | 10 => T8n10
  | 11 => T8n11
  | 12 => T8n12
  | _ => .skip
theorem t8n0 : T8 0 = T8n0 := rfl
theorem t8n1 : T8 1 = T8n1 := rfl
theorem t8n2 : T8 2 = T8n2 := rfl
theorem t8n3 : T8 3 = T8n3 := rfl
theorem t8n4 : T8 4 = T8n4 := rfl
theorem t8n5 : T8 5 = T8n5 := rfl
theorem t8n6 : T8 6 = T8n6 := rfl
theorem t8n7 : T8 7 = T8n7 := rfl
theorem t8n8 : T8 8 = T8n8 := rfl
theorem t8n9 : T8 9 = T8n9 := rfl
theorem t8n10 : T8 10 = T8n10 := rfl
theorem t8n11 : T8 11 = T8n11 := rfl
theorem t8n12 : T8 12 = T8n12 := rfl
def X8 : XC := .seq (.ops [XS.mk (some 2) none (XI.k (XK.mov (Operand.const (Value.string (ByteArray.mk (Array.mk []))))))]) (.ref 12)
abbrev K8 : List Nat := [0, 2, 3, 4, 5, 6, 17, 23, 36]
theorem n8 : Tryd.f8.ntmps = 40 := by kernel_rfl
theorem r8 : resT Tryd.f8.results.toList = some [2] := by kernel_rfl
theorem x8 : cmpF Tryd.prog Tryd.f8 = some (expand T8 14 X8) := by kernel_rfl
def T9n0 : XC := .seq (.ops [XS.mk (some 5) none (XI.k (XK.mov (Operand.tmp 0))), XS.mk (some 6) none (XI.k (XK.mov (Operand.tmp 1))), XS.mk (some 7) none (XI.call 12 [Operand.tmp 5, Operand.tmp 6]), XS.mk (some 8) none (XI.k (XK.cmp BinOp.geq IntKind.i64 (Operand.tmp 7) (Operand.const (Value.int IntKind.i64 0)))), XS.mk (some 4) none (XI.k (XK.mov (Operand.tmp 8)))]) (.ret)
def T9 : Nat → XC
  | 0 => T9n0
  | _ => .skip
theorem t9n0 : T9 0 = T9n0 := rfl
def X9 : XC := .seq (.ops [XS.mk (some 4) none (XI.k (XK.mov (Operand.const (Value.bool false))))]) (.ref 0)
abbrev K9 : List Nat := [0, 1, 4]
theorem n9 : Tryd.f9.ntmps = 9 := by kernel_rfl
theorem r9 : resT Tryd.f9.results.toList = some [4] := by kernel_rfl
theorem x9 : cmpF Tryd.prog Tryd.f9 = some (expand T9 2 X9) := by kernel_rfl
def T10n0 : XC := .seq (.ops [XS.mk (some 3) none (XI.k (XK.fld 0 (Operand.tmp 1))), XS.mk (some 4) none (XI.k (XK.load [CK.int IntKind.i64] false (Operand.tmp 3))), XS.mk (some 5) none (XI.k (XK.cmp BinOp.geq IntKind.i64 (Operand.tmp 4) (Operand.const (Value.int IntKind.i64 1)))), XS.mk (some 6) none (XI.k (XK.mov (Operand.tmp 5))), XS.mk (some 7) (some (6, true)) (XI.k (XK.fld 0 (Operand.tmp 1))), XS.mk (some 8) (some (6, true)) (XI.k (XK.load [CK.int IntKind.i64] false (Operand.tmp 7))), XS.mk (some 9) (some (6, true)) (XI.k (XK.cmp BinOp.leq IntKind.i64 (Operand.tmp 8) (Operand.const (Value.int IntKind.i64 6)))), XS.mk (some 10) none (XI.k (XK.pick (Operand.tmp 6) (Operand.tmp 9) (Operand.const (Value.bool false)))), XS.mk (some 2) none (XI.k (XK.mov (Operand.tmp 10)))]) (.ret)
def T10 : Nat → XC
  | 0 => T10n0
  | _ => .skip
theorem t10n0 : T10 0 = T10n0 := rfl
def X10 : XC := .seq (.ops [XS.mk (some 1) none (XI.k (XK.box 25 2 (Operand.tmp 0))), XS.mk (some 2) none (XI.k (XK.mov (Operand.const (Value.bool false))))]) (.ref 0)
abbrev K10 : List Nat := [0, 1, 2]
theorem n10 : Tryd.f10.ntmps = 11 := by kernel_rfl
theorem r10 : resT Tryd.f10.results.toList = some [2] := by kernel_rfl
theorem x10 : cmpF Tryd.prog Tryd.f10 = some (expand T10 2 X10) := by kernel_rfl
def T12n0 : XC := .seq (.ops [XS.mk (some 17) none (XI.k (XK.mov (Operand.tmp 5))), XS.mk (some 4) none (XI.k (XK.mov (Operand.tmp 17)))]) (.ret)
def T12n1 : XC := .seq (.ops [XS.mk (some 11) none (XI.k (XK.mov (Operand.tmp 1))), XS.mk (some 12) none (XI.k (XK.mov (Operand.tmp 0))), XS.mk (some 13) none (XI.k (XK.mov (Operand.tmp 5))), XS.mk (some 14) none (XI.k (XK.idx 2 (Operand.tmp 12) (Operand.tmp 13))), XS.mk (some 15) none (XI.k (XK.load [CK.int IntKind.i64, CK.int IntKind.i64] true (Operand.tmp 14))), XS.mk (some 16) none (XI.callv (Operand.tmp 11) [Operand.tmp 15])]) (.cond (Operand.tmp 16) (.ref 0) (.skip))
def T12n2 : XC := .seq (.blk 1 (.seq (.ops [XS.mk (some 10) none (XI.k (XK.mov (Operand.tmp 8))), XS.mk (some 5) none (XI.k (XK.mov (Operand.tmp 10)))]) (.ref 1))) (.ops [XS.mk (some 18) none (XI.k (XK.arith BinOp.add IntKind.i64 (Operand.tmp 8) (Operand.const (Value.int IntKind.i64 1)))), XS.mk (some 8) none (XI.k (XK.mov (Operand.tmp 18)))])
def T12n3 : XC := .seq (.cond (Operand.tmp 9) (.skip) (.exit 0)) (.ref 2)
def T12n4 : XC := .seq (.ops [XS.mk (some 9) none (XI.k (XK.cmp BinOp.lss IntKind.i64 (Operand.tmp 8) (Operand.tmp 7)))]) (.ref 3)
def T12n5 : XC := .seq (.ops [XS.mk (some 4) none (XI.k (XK.mov (Operand.const (Value.int IntKind.i64 (-1)))))]) (.ret)
def T12n6 : XC := .seq (.seq (.ops [XS.mk (some 6) none (XI.k (XK.mov (Operand.tmp 0))), XS.mk (some 7) none (XI.k (XK.lenS (Operand.tmp 6))), XS.mk (some 8) none (XI.k (XK.mov (Operand.const (Value.int IntKind.i64 0))))]) (.blk 0 (.loop (.ref 4)))) (.ref 5)
def T12 : Nat → XC
  | 0 => T12n0
  | 1 => T12n1
  | 2 => T12n2
  | 3 => T12n3
  | 4 => T12n4
  | 5 => T12n5
  | 6 => T12n6
  | _ => .skip
theorem t12n0 : T12 0 = T12n0 := rfl
theorem t12n1 : T12 1 = T12n1 := rfl
theorem t12n2 : T12 2 = T12n2 := rfl
theorem t12n3 : T12 3 = T12n3 := rfl
theorem t12n4 : T12 4 = T12n4 := rfl
theorem t12n5 : T12 5 = T12n5 := rfl
theorem t12n6 : T12 6 = T12n6 := rfl
def X12 : XC := .seq (.ops [XS.mk (some 4) none (XI.k (XK.mov (Operand.const (Value.int IntKind.i64 0))))]) (.ref 6)
abbrev K12 : List Nat := [0, 1, 4, 5, 7, 8, 9, 16]
theorem n12 : Tryd.f12.ntmps = 19 := by kernel_rfl
theorem r12 : resT Tryd.f12.results.toList = some [4] := by kernel_rfl
theorem x12 : cmpF Tryd.prog Tryd.f12 = some (expand T12 8 X12) := by kernel_rfl
end Go.Proofs.YtijenbodckcbcaaDoor
