/- Printed by program: the small code of functions, and that it is theirs. -/
import Derived.Test.YtlbiogokpadaoaaGreatDoorSxCall
import Derived.Test.YtlbiogokpadaoaaGreatDoorProg
import Derived.KernelRfl
set_option linter.unusedSimpArgs false
set_option linter.unusedVariables false
set_option linter.unnecessarySimpa false
namespace Go.Proofs.YtlbiogokpadaoaaGreatDoor
open Go Go.Sx
set_option maxRecDepth 100000
def T21n0 : XC := .seq (.ops [XS.mk (some 2) none (XI.k (XK.mov (Operand.const (Value.bool false))))]) (.ret)
def T21n1 : XC := .seq (.ops [XS.mk (some 24) none (XI.k (XK.mov (Operand.tmp 3))), XS.mk (some 25) none (XI.k (XK.mov (Operand.tmp 5))), XS.mk (some 26) none (XI.k (XK.ixT (Operand.const (Value.string (ByteArray.mk (Array.mk [UInt8.ofNat 65, UInt8.ofNat 66, UInt8.ofNat 67])))) (Operand.tmp 25))), XS.mk (some 27) none (XI.call 38 [Operand.tmp 24, Operand.tmp 26]), XS.mk (some 28) none (XI.k (XK.cmp BinOp.geq IntKind.i64 (Operand.tmp 27) (Operand.const (Value.int IntKind.i64 0)))), XS.mk (some 29) none (XI.k (XK.mov (Operand.tmp 28))), XS.mk (some 30) (some (29, true)) (XI.k (XK.mov (Operand.tmp 6))), XS.mk (some 31) (some (29, true)) (XI.k (XK.cmp BinOp.lss IntKind.i64 (Operand.tmp 30) (Operand.const (Value.int IntKind.i64 0)))), XS.mk (some 32) (some (29, true)) (XI.k (XK.mov (Operand.tmp 31))), XS.mk (some 33) (some (32, false)) (XI.k (XK.mov (Operand.tmp 6))), XS.mk (some 34) (some (32, false)) (XI.k (XK.cmp BinOp.geq IntKind.i64 (Operand.tmp 33) (Operand.const (Value.int IntKind.i64 8)))), XS.mk (some 35) (some (29, true)) (XI.k (XK.pick (Operand.tmp 32) (Operand.const (Value.bool true)) (Operand.tmp 34))), XS.mk (some 36) none (XI.k (XK.pick (Operand.tmp 29) (Operand.tmp 35) (Operand.const (Value.bool false))))]) (.cond (Operand.tmp 36) (.ref 0) (.skip))
def T21n2 : XC := .seq (.blk 1 (.seq (.ops [XS.mk (some 22) none (XI.k (XK.mov (Operand.tmp 20))), XS.mk (some 23) none (XI.k (XK.ixA 3 1 false (Operand.tmp 19) (Operand.tmp 20))), XS.mk (some 5) none (XI.k (XK.mov (Operand.tmp 22))), XS.mk (some 6) none (XI.k (XK.mov (Operand.tmp 23)))]) (.ref 1))) (.ops [XS.mk (some 37) none (XI.k (XK.arith BinOp.add IntKind.i64 (Operand.tmp 20) (Operand.const (Value.int IntKind.i64 1)))), XS.mk (some 20) none (XI.k (XK.mov (Operand.tmp 37)))])
def T21n3 : XC := .seq (.cond (Operand.tmp 21) (.skip) (.exit 0)) (.ref 2)
def T21n4 : XC := .seq (.ops [XS.mk (some 21) none (XI.k (XK.cmp BinOp.lss IntKind.i64 (Operand.tmp 20) (Operand.const (Value.int IntKind.i64 3))))]) (.ref 3)
def T21n5 : XC := .seq (.ops [XS.mk (some 38) none (XI.k (XK.mov (Operand.tmp 4))), XS.mk (some 2) none (XI.k (XK.mov (Operand.tmp 38)))]) (.ret)
def T21n6 : XC := .seq (.seq (.ops [XS.mk (some 13) none (XI.k (XK.fld 1 (Operand.tmp 1))), XS.mk (some 14) none (XI.k (XK.load [CK.int IntKind.i64] false (Operand.tmp 13))), XS.mk (some 15) none (XI.k (XK.fld 2 (Operand.tmp 1))), XS.mk (some 16) none (XI.k (XK.load [CK.int IntKind.i64] false (Operand.tmp 15))), XS.mk (some 17) none (XI.k (XK.fld 3 (Operand.tmp 1))), XS.mk (some 18) none (XI.k (XK.load [CK.int IntKind.i64] false (Operand.tmp 17))), XS.mk (some 19) none (XI.k (XK.build [Value.int IntKind.i64 0, Value.int IntKind.i64 0, Value.int IntKind.i64 0] [(0, 1, Operand.tmp 14), (1, 1, Operand.tmp 16), (2, 1, Operand.tmp 18)])), XS.mk (some 20) none (XI.k (XK.mov (Operand.const (Value.int IntKind.i64 0))))]) (.blk 0 (.loop (.ref 4)))) (.ref 5)
def T21n7 : XC := .seq (.ops [XS.mk (some 8) none (XI.k (XK.fld 0 (Operand.tmp 1))), XS.mk (some 9) none (XI.k (XK.load [CK.int IntKind.i64] false (Operand.tmp 8))), XS.mk (some 10) none (XI.call 37 [Operand.tmp 9]), XS.mk (some 7) none (XI.k (XK.mov (Operand.tmp 10))), XS.mk (some 11) none (XI.k (XK.ext (Operand.tmp 7) 0)), XS.mk (some 12) none (XI.k (XK.ext (Operand.tmp 7) 1)), XS.mk (some 3) none (XI.k (XK.mov (Operand.tmp 11))), XS.mk (some 4) none (XI.k (XK.mov (Operand.tmp 12)))]) (.ref 6)
def T21 : Nat → XC
  | 0 => T21n0
  | 1 => T21n1
  | 2 => T21n2
  | 3 => T21n3
  | 4 => T21n4
  | 5 => T21n5
  | 6 => T21n6
  | 7 => T21n7
  | _ => .skip
theorem t21n0 : T21 0 = T21n0 := rfl
theorem t21n1 : T21 1 = T21n1 := rfl
theorem t21n2 : T21 2 = T21n2 := rfl
theorem t21n3 : T21 3 = T21n3 := rfl
theorem t21n4 : T21 4 = T21n4 := rfl
theorem t21n5 : T21 5 = T21n5 := rfl
theorem t21n6 : T21 6 = T21n6 := rfl
theorem t21n7 : T21 7 = T21n7 := rfl
def X21 : XC := .seq (.ops [XS.mk (some 1) none (XI.k (XK.box 41 5 (Operand.tmp 0))), XS.mk (some 2) none (XI.k (XK.mov (Operand.const (Value.bool false))))]) (.ref 7)
abbrev K21 : List Nat := [0, 1, 2, 3, 4, 5, 6, 19, 20, 21, 36]
theorem n21 : Tryz.f21.ntmps = 39 := by kernel_rfl
theorem r21 : resT Tryz.f21.results.toList = some [2] := by kernel_rfl
theorem x21 : cmpF Tryz.prog Tryz.f21 = some (expand T21 9 X21) := by kernel_rfl
def T37n0 : XC := .seq (.ops [XS.mk (some 2) none (XI.k (XK.mov (Operand.const (Value.string (ByteArray.mk (Array.mk [])))))), XS.mk (some 3) none (XI.k (XK.mov (Operand.const (Value.bool false))))]) (.ret)
def T37n1 : XC := .seq (.ops [XS.mk (some 10) none (XI.k (XK.mov (Operand.tmp 0))), XS.mk (some 11) none (XI.k (XK.idxA 19 2 (Operand.global 0) (Operand.tmp 10))), XS.mk (some 12) none (XI.k (XK.fld 1 (Operand.tmp 11))), XS.mk (some 13) none (XI.k (XK.load [CK.str] false (Operand.tmp 12))), XS.mk (some 2) none (XI.k (XK.mov (Operand.tmp 13))), XS.mk (some 3) none (XI.k (XK.mov (Operand.const (Value.bool true))))]) (.ret)
def T37n2 : XC := .seq (.seq (.ops [XS.mk (some 4) none (XI.k (XK.mov (Operand.tmp 0))), XS.mk (some 5) none (XI.k (XK.cmp BinOp.lss IntKind.i64 (Operand.tmp 4) (Operand.const (Value.int IntKind.i64 1)))), XS.mk (some 6) none (XI.k (XK.mov (Operand.tmp 5))), XS.mk (some 7) (some (6, false)) (XI.k (XK.mov (Operand.tmp 0))), XS.mk (some 8) (some (6, false)) (XI.k (XK.cmp BinOp.geq IntKind.i64 (Operand.tmp 7) (Operand.const (Value.int IntKind.i64 19)))), XS.mk (some 9) none (XI.k (XK.pick (Operand.tmp 6) (Operand.const (Value.bool true)) (Operand.tmp 8)))]) (.cond (Operand.tmp 9) (.ref 0) (.skip))) (.ref 1)
def T37 : Nat → XC
  | 0 => T37n0
  | 1 => T37n1
  | 2 => T37n2
  | _ => .skip
theorem t37n0 : T37 0 = T37n0 := rfl
theorem t37n1 : T37 1 = T37n1 := rfl
theorem t37n2 : T37 2 = T37n2 := rfl
def X37 : XC := .seq (.ops [XS.mk (some 2) none (XI.k (XK.mov (Operand.const (Value.string (ByteArray.mk (Array.mk [])))))), XS.mk (some 3) none (XI.k (XK.mov (Operand.const (Value.bool false))))]) (.ref 2)
abbrev K37 : List Nat := [0, 2, 3, 9]
theorem n37 : Tryz.f37.ntmps = 14 := by kernel_rfl
theorem r37 : resT Tryz.f37.results.toList = some [2, 3] := by kernel_rfl
theorem x37 : cmpF Tryz.prog Tryz.f37 = some (expand T37 4 X37) := by kernel_rfl
def T38n0 : XC := .seq (.ops [XS.mk (some 5) none (XI.k (XK.mov (Operand.tmp 0))), XS.mk (some 6) none (XI.k (XK.mov (Operand.tmp 1))), XS.mk (some 7) none (XI.call 71 [Operand.tmp 5, Operand.tmp 6]), XS.mk (some 4) none (XI.k (XK.mov (Operand.tmp 7)))]) (.ret)
def T38 : Nat → XC
  | 0 => T38n0
  | _ => .skip
theorem t38n0 : T38 0 = T38n0 := rfl
def X38 : XC := .seq (.ops [XS.mk (some 4) none (XI.k (XK.mov (Operand.const (Value.int IntKind.i64 0))))]) (.ref 0)
abbrev K38 : List Nat := [0, 1, 4]
theorem n38 : Tryz.f38.ntmps = 8 := by kernel_rfl
theorem r38 : resT Tryz.f38.results.toList = some [4] := by kernel_rfl
theorem x38 : cmpF Tryz.prog Tryz.f38 = some (expand T38 2 X38) := by kernel_rfl
def T71n0 : XC := .seq (.ops [XS.mk (some 5) none (XI.k (XK.mov (Operand.tmp 0))), XS.mk (some 6) none (XI.k (XK.mov (Operand.tmp 1))), XS.mk (some 7) none (XI.k (XK.lib 0 [Operand.tmp 5, Operand.tmp 6])), XS.mk (some 4) none (XI.k (XK.mov (Operand.tmp 7)))]) (.ret)
def T71 : Nat → XC
  | 0 => T71n0
  | _ => .skip
theorem t71n0 : T71 0 = T71n0 := rfl
def X71 : XC := .seq (.ops [XS.mk (some 4) none (XI.k (XK.mov (Operand.const (Value.int IntKind.i64 0))))]) (.ref 0)
abbrev K71 : List Nat := [0, 1, 4]
theorem n71 : Tryz.f71.ntmps = 8 := by kernel_rfl
theorem r71 : resT Tryz.f71.results.toList = some [4] := by kernel_rfl
theorem x71 : cmpF Tryz.prog Tryz.f71 = some (expand T71 2 X71) := by kernel_rfl
def T90n0 : XC := .seq (.ops [XS.mk (some 11) none (XI.k (XK.mov (Operand.tmp 4))), XS.mk (some 12) none (XI.k (XK.mov (Operand.tmp 11))), XS.mk (some 13) (some (12, true)) (XI.k (XK.fld 1 (Operand.tmp 3))), XS.mk (some 14) (some (12, true)) (XI.k (XK.load [CK.bool] false (Operand.tmp 13))), XS.mk (some 15) (some (12, true)) (XI.k (XK.not (Operand.tmp 14))), XS.mk (some 16) (some (12, true)) (XI.k (XK.mov (Operand.tmp 15))), XS.mk (some 17) (some (16, false)) (XI.k (XK.fld 1 (Operand.tmp 1))), XS.mk (some 18) (some (16, false)) (XI.k (XK.load [CK.int IntKind.i64] false (Operand.tmp 17))), XS.mk (some 19) (some (16, false)) (XI.call 120 [Operand.tmp 18]), XS.mk (some 20) (some (12, true)) (XI.k (XK.pick (Operand.tmp 16) (Operand.const (Value.bool true)) (Operand.tmp 19))), XS.mk (some 21) none (XI.k (XK.pick (Operand.tmp 12) (Operand.tmp 20) (Operand.const (Value.bool false)))), XS.mk (some 22) none (XI.k (XK.mov (Operand.tmp 21))), XS.mk (some 23) (some (22, true)) (XI.k (XK.fld 2 (Operand.tmp 3))), XS.mk (some 24) (some (22, true)) (XI.k (XK.load [CK.bool] false (Operand.tmp 23))), XS.mk (some 25) (some (22, true)) (XI.k (XK.not (Operand.tmp 24))), XS.mk (some 26) (some (22, true)) (XI.k (XK.mov (Operand.tmp 25))), XS.mk (some 27) (some (26, false)) (XI.k (XK.fld 2 (Operand.tmp 1))), XS.mk (some 28) (some (26, false)) (XI.k (XK.load [CK.int IntKind.i64] false (Operand.tmp 27))), XS.mk (some 29) (some (26, false)) (XI.call 120 [Operand.tmp 28]), XS.mk (some 30) (some (22, true)) (XI.k (XK.pick (Operand.tmp 26) (Operand.const (Value.bool true)) (Operand.tmp 29))), XS.mk (some 31) none (XI.k (XK.pick (Operand.tmp 22) (Operand.tmp 30) (Operand.const (Value.bool false)))), XS.mk (some 32) none (XI.k (XK.mov (Operand.tmp 31))), XS.mk (some 33) (some (32, true)) (XI.k (XK.fld 3 (Operand.tmp 3))), XS.mk (some 34) (some (32, true)) (XI.k (XK.load [CK.bool] false (Operand.tmp 33))), XS.mk (some 35) (some (32, true)) (XI.k (XK.not (Operand.tmp 34))), XS.mk (some 36) (some (32, true)) (XI.k (XK.mov (Operand.tmp 35))), XS.mk (some 37) (some (36, false)) (XI.k (XK.fld 3 (Operand.tmp 1))), XS.mk (some 38) (some (36, false)) (XI.k (XK.load [CK.int IntKind.i64] false (Operand.tmp 37))), XS.mk (some 39) (some (36, false)) (XI.call 120 [Operand.tmp 38]), XS.mk (some 40) (some (32, true)) (XI.k (XK.pick (Operand.tmp 36) (Operand.const (Value.bool true)) (Operand.tmp 39))), XS.mk (some 41) none (XI.k (XK.pick (Operand.tmp 32) (Operand.tmp 40) (Operand.const (Value.bool false)))), XS.mk (some 2) none (XI.k (XK.mov (Operand.tmp 41)))]) (.ret)
def T90n1 : XC := .seq (.ops [XS.mk (some 6) none (XI.k (XK.fld 0 (Operand.tmp 1))), XS.mk (some 7) none (XI.k (XK.load [CK.int IntKind.i64] false (Operand.tmp 6))), XS.mk (some 8) none (XI.call 119 [Operand.tmp 7]), XS.mk (some 5) none (XI.k (XK.mov (Operand.tmp 8))), XS.mk (some 9) none (XI.k (XK.ext (Operand.tmp 5) 0)), XS.mk (some 10) none (XI.k (XK.ext (Operand.tmp 5) 1)), XS.mk (some 3) none (XI.k (XK.alloc 172 [Value.string (ByteArray.mk (Array.mk [])), Value.bool false, Value.bool false, Value.bool false, Value.bool false])), XS.mk none none (XI.k (XK.store 5 (Operand.tmp 3) (Operand.tmp 9))), XS.mk (some 4) none (XI.k (XK.mov (Operand.tmp 10)))]) (.ref 0)
def T90 : Nat → XC
  | 0 => T90n0
  | 1 => T90n1
  | _ => .skip
theorem t90n0 : T90 0 = T90n0 := rfl
theorem t90n1 : T90 1 = T90n1 := rfl
def X90 : XC := .seq (.ops [XS.mk (some 1) none (XI.k (XK.box 41 5 (Operand.tmp 0))), XS.mk (some 2) none (XI.k (XK.mov (Operand.const (Value.bool false))))]) (.ref 1)
abbrev K90 : List Nat := [0, 1, 2, 3, 4]
theorem n90 : Tryz.f90.ntmps = 42 := by kernel_rfl
theorem r90 : resT Tryz.f90.results.toList = some [2] := by kernel_rfl
theorem x90 : cmpF Tryz.prog Tryz.f90 = some (expand T90 3 X90) := by kernel_rfl
def T119n0 : XC := .seq (.ops [XS.mk (some 9) none (XI.k (XK.build [Value.string (ByteArray.mk (Array.mk [])), Value.bool false, Value.bool false, Value.bool false, Value.bool false] [(0, 1, Operand.const (Value.string (ByteArray.mk (Array.mk [UInt8.ofNat 104, UInt8.ofNat 97, UInt8.ofNat 108, UInt8.ofNat 116]))))])), XS.mk none none (XI.k (XK.store 5 (Operand.tmp 2) (Operand.tmp 9))), XS.mk (some 3) none (XI.k (XK.mov (Operand.const (Value.bool true))))]) (.ret)
def T119n1 : XC := .seq (.ops [XS.mk (some 12) none (XI.k (XK.build [Value.string (ByteArray.mk (Array.mk [])), Value.bool false, Value.bool false, Value.bool false, Value.bool false] [(0, 1, Operand.const (Value.string (ByteArray.mk (Array.mk [UInt8.ofNat 115, UInt8.ofNat 101, UInt8.ofNat 116])))), (1, 1, Operand.const (Value.bool true)), (4, 1, Operand.const (Value.bool true))])), XS.mk none none (XI.k (XK.store 5 (Operand.tmp 2) (Operand.tmp 12))), XS.mk (some 3) none (XI.k (XK.mov (Operand.const (Value.bool true))))]) (.ret)
def T119n2 : XC := .seq (.ops [XS.mk (some 15) none (XI.k (XK.build [Value.string (ByteArray.mk (Array.mk [])), Value.bool false, Value.bool false, Value.bool false, Value.bool false] [(0, 1, Operand.const (Value.string (ByteArray.mk (Array.mk [UInt8.ofNat 109, UInt8.ofNat 111, UInt8.ofNat 118])))), (1, 1, Operand.const (Value.bool true)), (2, 1, Operand.const (Value.bool true))])), XS.mk none none (XI.k (XK.store 5 (Operand.tmp 2) (Operand.tmp 15))), XS.mk (some 3) none (XI.k (XK.mov (Operand.const (Value.bool true))))]) (.ret)
def T119n3 : XC := .cond (Operand.tmp 16) (.skip) (.ops [XS.mk (some 23) none (XI.k (XK.cmp BinOp.eql IntKind.i64 (Operand.tmp 6) (Operand.const (Value.int IntKind.i64 10)))), XS.mk (some 16) none (XI.k (XK.mov (Operand.tmp 23)))])
def T119n4 : XC := .seq (.ops [XS.mk (some 22) none (XI.k (XK.cmp BinOp.eql IntKind.i64 (Operand.tmp 6) (Operand.const (Value.int IntKind.i64 9)))), XS.mk (some 16) none (XI.k (XK.mov (Operand.tmp 22)))]) (.ref 3)
def T119n5 : XC := .seq (.ops [XS.mk (some 21) none (XI.k (XK.cmp BinOp.eql IntKind.i64 (Operand.tmp 6) (Operand.const (Value.int IntKind.i64 8)))), XS.mk (some 16) none (XI.k (XK.mov (Operand.tmp 21)))]) (.cond (Operand.tmp 16) (.skip) (.ref 4))
def T119n6 : XC := .seq (.ops [XS.mk (some 20) none (XI.k (XK.cmp BinOp.eql IntKind.i64 (Operand.tmp 6) (Operand.const (Value.int IntKind.i64 7)))), XS.mk (some 16) none (XI.k (XK.mov (Operand.tmp 20)))]) (.cond (Operand.tmp 16) (.skip) (.ref 5))
def T119n7 : XC := .seq (.ops [XS.mk (some 19) none (XI.k (XK.cmp BinOp.eql IntKind.i64 (Operand.tmp 6) (Operand.const (Value.int IntKind.i64 6)))), XS.mk (some 16) none (XI.k (XK.mov (Operand.tmp 19)))]) (.cond (Operand.tmp 16) (.skip) (.ref 6))
def T119n8 : XC := .seq (.ops [XS.mk (some 18) none (XI.k (XK.cmp BinOp.eql IntKind.i64 (Operand.tmp 6) (Operand.const (Value.int IntKind.i64 5)))), XS.mk (some 16) none (XI.k (XK.mov (Operand.tmp 18)))]) (.cond (Operand.tmp 16) (.skip) (.ref 7))
def T119n9 : XC := .seq (.ops [XS.mk (some 25) none (XI.k (XK.mov (Operand.tmp 4))), XS.mk (some 26) none (XI.k (XK.mov (Operand.tmp 0))), XS.mk (some 27) none (XI.k (XK.arith BinOp.sub IntKind.i64 (Operand.tmp 26) (Operand.const (Value.int IntKind.i64 4)))), XS.mk (some 28) none (XI.k (XK.idx 1 (Operand.tmp 25) (Operand.tmp 27))), XS.mk (some 29) none (XI.k (XK.load [CK.str] false (Operand.tmp 28))), XS.mk (some 30) none (XI.k (XK.build [Value.string (ByteArray.mk (Array.mk [])), Value.bool false, Value.bool false, Value.bool false, Value.bool false] [(0, 1, Operand.tmp 29), (1, 1, Operand.const (Value.bool true)), (2, 1, Operand.const (Value.bool true)), (3, 1, Operand.const (Value.bool true))])), XS.mk none none (XI.k (XK.store 5 (Operand.tmp 2) (Operand.tmp 30))), XS.mk (some 3) none (XI.k (XK.mov (Operand.const (Value.bool true))))]) (.ret)
def T119n10 : XC := .seq (.ops [XS.mk (some 24) none (XI.k (XK.buildS 9 7 1 [Value.string (ByteArray.mk (Array.mk []))] [(0, Operand.const (Value.string (ByteArray.mk (Array.mk [UInt8.ofNat 97, UInt8.ofNat 100, UInt8.ofNat 100])))), (1, Operand.const (Value.string (ByteArray.mk (Array.mk [UInt8.ofNat 115, UInt8.ofNat 117, UInt8.ofNat 98])))), (2, Operand.const (Value.string (ByteArray.mk (Array.mk [UInt8.ofNat 109, UInt8.ofNat 117, UInt8.ofNat 108])))), (3, Operand.const (Value.string (ByteArray.mk (Array.mk [UInt8.ofNat 97, UInt8.ofNat 110, UInt8.ofNat 100])))), (4, Operand.const (Value.string (ByteArray.mk (Array.mk [UInt8.ofNat 120, UInt8.ofNat 111, UInt8.ofNat 114])))), (5, Operand.const (Value.string (ByteArray.mk (Array.mk [UInt8.ofNat 115, UInt8.ofNat 104, UInt8.ofNat 108])))), (6, Operand.const (Value.string (ByteArray.mk (Array.mk [UInt8.ofNat 115, UInt8.ofNat 104, UInt8.ofNat 114]))))])), XS.mk (some 4) none (XI.k (XK.mov (Operand.tmp 24)))]) (.ref 9)
def T119n11 : XC := .cond (Operand.tmp 31) (.skip) (.ops [XS.mk (some 36) none (XI.k (XK.cmp BinOp.eql IntKind.i64 (Operand.tmp 6) (Operand.const (Value.int IntKind.i64 16)))), XS.mk (some 31) none (XI.k (XK.mov (Operand.tmp 36)))])
def T119n12 : XC := .seq (.ops [XS.mk (some 35) none (XI.k (XK.cmp BinOp.eql IntKind.i64 (Operand.tmp 6) (Operand.const (Value.int IntKind.i64 15)))), XS.mk (some 31) none (XI.k (XK.mov (Operand.tmp 35)))]) (.ref 11)
def T119n13 : XC := .seq (.ops [XS.mk (some 34) none (XI.k (XK.cmp BinOp.eql IntKind.i64 (Operand.tmp 6) (Operand.const (Value.int IntKind.i64 14)))), XS.mk (some 31) none (XI.k (XK.mov (Operand.tmp 34)))]) (.cond (Operand.tmp 31) (.skip) (.ref 12))
def T119n14 : XC := .seq (.ops [XS.mk (some 33) none (XI.k (XK.cmp BinOp.eql IntKind.i64 (Operand.tmp 6) (Operand.const (Value.int IntKind.i64 12)))), XS.mk (some 31) none (XI.k (XK.mov (Operand.tmp 33)))]) (.cond (Operand.tmp 31) (.skip) (.ref 13))
def T119n15 : XC := .seq (.ops [XS.mk (some 38) none (XI.k (XK.mov (Operand.tmp 5))), XS.mk (some 39) none (XI.k (XK.mov (Operand.tmp 0))), XS.mk (some 40) none (XI.k (XK.arith BinOp.sub IntKind.i64 (Operand.tmp 39) (Operand.const (Value.int IntKind.i64 11)))), XS.mk (some 41) none (XI.k (XK.idx 1 (Operand.tmp 38) (Operand.tmp 40))), XS.mk (some 42) none (XI.k (XK.load [CK.str] false (Operand.tmp 41))), XS.mk (some 43) none (XI.k (XK.build [Value.string (ByteArray.mk (Array.mk [])), Value.bool false, Value.bool false, Value.bool false, Value.bool false] [(0, 1, Operand.tmp 42), (1, 1, Operand.const (Value.bool true)), (2, 1, Operand.const (Value.bool true)), (4, 1, Operand.const (Value.bool true))])), XS.mk none none (XI.k (XK.store 5 (Operand.tmp 2) (Operand.tmp 43))), XS.mk (some 3) none (XI.k (XK.mov (Operand.const (Value.bool true))))]) (.ret)
def T119n16 : XC := .seq (.ops [XS.mk (some 37) none (XI.k (XK.buildS 9 6 1 [Value.string (ByteArray.mk (Array.mk []))] [(0, Operand.const (Value.string (ByteArray.mk (Array.mk [UInt8.ofNat 108, UInt8.ofNat 111, UInt8.ofNat 97, UInt8.ofNat 100])))), (1, Operand.const (Value.string (ByteArray.mk (Array.mk [UInt8.ofNat 115, UInt8.ofNat 116, UInt8.ofNat 111, UInt8.ofNat 114, UInt8.ofNat 101])))), (2, Operand.const (Value.string (ByteArray.mk (Array.mk [])))), (3, Operand.const (Value.string (ByteArray.mk (Array.mk [UInt8.ofNat 101, UInt8.ofNat 113])))), (4, Operand.const (Value.string (ByteArray.mk (Array.mk [UInt8.ofNat 110, UInt8.ofNat 101])))), (5, Operand.const (Value.string (ByteArray.mk (Array.mk [UInt8.ofNat 108, UInt8.ofNat 116]))))])), XS.mk (some 5) none (XI.k (XK.mov (Operand.tmp 37)))]) (.ref 15)
def T119n17 : XC := .seq (.ops [XS.mk (some 46) none (XI.k (XK.build [Value.string (ByteArray.mk (Array.mk [])), Value.bool false, Value.bool false, Value.bool false, Value.bool false] [(0, 1, Operand.const (Value.string (ByteArray.mk (Array.mk [UInt8.ofNat 106, UInt8.ofNat 117, UInt8.ofNat 109, UInt8.ofNat 112])))), (4, 1, Operand.const (Value.bool true))])), XS.mk none none (XI.k (XK.store 5 (Operand.tmp 2) (Operand.tmp 46))), XS.mk (some 3) none (XI.k (XK.mov (Operand.const (Value.bool true))))]) (.ret)
def T119n18 : XC := .seq (.ops [XS.mk (some 49) none (XI.k (XK.build [Value.string (ByteArray.mk (Array.mk [])), Value.bool false, Value.bool false, Value.bool false, Value.bool false] [(0, 1, Operand.const (Value.string (ByteArray.mk (Array.mk [UInt8.ofNat 98, UInt8.ofNat 101, UInt8.ofNat 103, UInt8.ofNat 105, UInt8.ofNat 110]))))])), XS.mk none none (XI.k (XK.store 5 (Operand.tmp 2) (Operand.tmp 49))), XS.mk (some 3) none (XI.k (XK.mov (Operand.const (Value.bool true))))]) (.ret)
def T119n19 : XC := .seq (.ops [XS.mk (some 52) none (XI.k (XK.build [Value.string (ByteArray.mk (Array.mk [])), Value.bool false, Value.bool false, Value.bool false, Value.bool false] [(0, 1, Operand.const (Value.string (ByteArray.mk (Array.mk [UInt8.ofNat 101, UInt8.ofNat 110, UInt8.ofNat 100]))))])), XS.mk none none (XI.k (XK.store 5 (Operand.tmp 2) (Operand.tmp 52))), XS.mk (some 3) none (XI.k (XK.mov (Operand.const (Value.bool true))))]) (.ret)
def T119n20 : XC := .seq (.ops [XS.mk (some 51) none (XI.k (XK.cmp BinOp.eql IntKind.i64 (Operand.tmp 6) (Operand.const (Value.int IntKind.i64 18)))), XS.mk (some 50) none (XI.k (XK.mov (Operand.tmp 51)))]) (.cond (Operand.tmp 50) (.ref 19) (.skip))
def T119n21 : XC := .seq (.ops [XS.mk (some 48) none (XI.k (XK.cmp BinOp.eql IntKind.i64 (Operand.tmp 6) (Operand.const (Value.int IntKind.i64 17)))), XS.mk (some 47) none (XI.k (XK.mov (Operand.tmp 48)))]) (.cond (Operand.tmp 47) (.ref 18) (.ref 20))
def T119n22 : XC := .seq (.ops [XS.mk (some 45) none (XI.k (XK.cmp BinOp.eql IntKind.i64 (Operand.tmp 6) (Operand.const (Value.int IntKind.i64 13)))), XS.mk (some 44) none (XI.k (XK.mov (Operand.tmp 45)))]) (.cond (Operand.tmp 44) (.ref 17) (.ref 21))
def T119n23 : XC := .seq (.seq (.ops [XS.mk (some 32) none (XI.k (XK.cmp BinOp.eql IntKind.i64 (Operand.tmp 6) (Operand.const (Value.int IntKind.i64 11)))), XS.mk (some 31) none (XI.k (XK.mov (Operand.tmp 32)))]) (.cond (Operand.tmp 31) (.skip) (.ref 14))) (.cond (Operand.tmp 31) (.ref 16) (.ref 22))
def T119n24 : XC := .seq (.seq (.ops [XS.mk (some 17) none (XI.k (XK.cmp BinOp.eql IntKind.i64 (Operand.tmp 6) (Operand.const (Value.int IntKind.i64 4)))), XS.mk (some 16) none (XI.k (XK.mov (Operand.tmp 17)))]) (.cond (Operand.tmp 16) (.skip) (.ref 8))) (.cond (Operand.tmp 16) (.ref 10) (.ref 23))
def T119n25 : XC := .seq (.ops [XS.mk (some 14) none (XI.k (XK.cmp BinOp.eql IntKind.i64 (Operand.tmp 6) (Operand.const (Value.int IntKind.i64 3)))), XS.mk (some 13) none (XI.k (XK.mov (Operand.tmp 14)))]) (.cond (Operand.tmp 13) (.ref 2) (.ref 24))
def T119n26 : XC := .seq (.ops [XS.mk (some 11) none (XI.k (XK.cmp BinOp.eql IntKind.i64 (Operand.tmp 6) (Operand.const (Value.int IntKind.i64 2)))), XS.mk (some 10) none (XI.k (XK.mov (Operand.tmp 11)))]) (.cond (Operand.tmp 10) (.ref 1) (.ref 25))
def T119n27 : XC := .blk 0 (.seq (.ops [XS.mk (some 8) none (XI.k (XK.cmp BinOp.eql IntKind.i64 (Operand.tmp 6) (Operand.const (Value.int IntKind.i64 1)))), XS.mk (some 7) none (XI.k (XK.mov (Operand.tmp 8)))]) (.cond (Operand.tmp 7) (.ref 0) (.ref 26)))
def T119n28 : XC := .seq (.ops [XS.mk (some 53) none (XI.k (XK.build [Value.string (ByteArray.mk (Array.mk [])), Value.bool false, Value.bool false, Value.bool false, Value.bool false] [])), XS.mk none none (XI.k (XK.store 5 (Operand.tmp 2) (Operand.tmp 53))), XS.mk (some 3) none (XI.k (XK.mov (Operand.const (Value.bool false))))]) (.ret)
def T119n29 : XC := .seq (.seq (.ops [XS.mk (some 6) none (XI.k (XK.mov (Operand.tmp 0)))]) (.ref 27)) (.ref 28)
def T119 : Nat → XC
  | 0 => T119n0
  | 1 => T119n1
  | 2 => T119n2
  | 3 => T119n3
  | 4 => T119n4
  | 5 => T119n5
  | 6 => T119n6
  | 7 => T119n7
  | 8 => T119n8
  | 9 => T119n9
  | 10 => T119n10
  | 11 => T119n11
  | 12 => T119n12
  | 13 => T119n13
  | 14 => T119n14
  | 15 => T119n15
  | 16 => T119n16
  | 17 => T119n17
  | 18 => T119n18
  | 19 => T119n19
  | 20 => T119n20
  | 21 => T119n21
  | 22 => T119n22
  | 23 => T119n23
  | 24 => T119n24
  | 25 => T119n25
  | 26 => T119n26
  | 27 => T119n27
  | 28 => T119n28
  | 29 => T119n29
  | _ => .skip
theorem t119n0 : T119 0 = T119n0 := rfl
theorem t119n1 : T119 1 = T119n1 := rfl
theorem t119n2 : T119 2 = T119n2 := rfl
theorem t119n3 : T119 3 = T119n3 := rfl
theorem t119n4 : T119 4 = T119n4 := rfl
theorem t119n5 : T119 5 = T119n5 := rfl
theorem t119n6 : T119 6 = T119n6 := rfl
theorem t119n7 : T119 7 = T119n7 := rfl
theorem t119n8 : T119 8 = T119n8 := rfl
theorem t119n9 : T119 9 = T119n9 := rfl
theorem t119n10 : T119 10 = T119n10 := rfl
theorem t119n11 : T119 11 = T119n11 := rfl
theorem t119n12 : T119 12 = T119n12 := rfl
theorem t119n13 : T119 13 = T119n13 := rfl
theorem t119n14 : T119 14 = T119n14 := rfl
theorem t119n15 : T119 15 = T119n15 := rfl
theorem t119n16 : T119 16 = T119n16 := rfl
theorem t119n17 : T119 17 = T119n17 := rfl
theorem t119n18 : T119 18 = T119n18 := rfl
theorem t119n19 : T119 19 = T119n19 := rfl
theorem t119n20 : T119 20 = T119n20 := rfl
theorem t119n21 : T119 21 = T119n21 := rfl
theorem t119n22 : T119 22 = T119n22 := rfl
theorem t119n23 : T119 23 = T119n23 := rfl
theorem t119n24 : T119 24 = T119n24 := rfl
theorem t119n25 : T119 25 = T119n25 := rfl
theorem t119n26 : T119 26 = T119n26 := rfl
theorem t119n27 : T119 27 = T119n27 := rfl
theorem t119n28 : T119 28 = T119n28 := rfl
theorem t119n29 : T119 29 = T119n29 := rfl
def X119 : XC := .seq (.ops [XS.mk (some 2) none (XI.k (XK.alloc 172 [Value.string (ByteArray.mk (Array.mk [])), Value.bool false, Value.bool false, Value.bool false, Value.bool false])), XS.mk (some 3) none (XI.k (XK.mov (Operand.const (Value.bool false))))]) (.ref 29)
abbrev K119 : List Nat := [0, 2, 3, 4, 5, 6, 7, 10, 13, 16, 31, 44, 47, 50]
theorem n119 : Tryz.f119.ntmps = 54 := by kernel_rfl
theorem r119 : rvOf Tryz.prog Tryz.f119.results.toList = some [RV.cell 2 5 true, RV.tmp 3] := by kernel_rfl
theorem x119 : cmpF Tryz.prog Tryz.f119 = some (expand T119 31 X119) := by kernel_rfl
def T120n0 : XC := .seq (.ops [XS.mk (some 3) none (XI.k (XK.mov (Operand.tmp 0))), XS.mk (some 4) none (XI.k (XK.cmp BinOp.geq IntKind.i64 (Operand.tmp 3) (Operand.const (Value.int IntKind.i64 0)))), XS.mk (some 5) none (XI.k (XK.mov (Operand.tmp 4))), XS.mk (some 6) (some (5, true)) (XI.k (XK.mov (Operand.tmp 0))), XS.mk (some 7) (some (5, true)) (XI.k (XK.cmp BinOp.lss IntKind.i64 (Operand.tmp 6) (Operand.const (Value.int IntKind.i64 8)))), XS.mk (some 8) none (XI.k (XK.pick (Operand.tmp 5) (Operand.tmp 7) (Operand.const (Value.bool false)))), XS.mk (some 2) none (XI.k (XK.mov (Operand.tmp 8)))]) (.ret)
def T120 : Nat → XC
  | 0 => T120n0
  | _ => .skip
theorem t120n0 : T120 0 = T120n0 := rfl
def X120 : XC := .seq (.ops [XS.mk (some 2) none (XI.k (XK.mov (Operand.const (Value.bool false))))]) (.ref 0)
abbrev K120 : List Nat := [0, 2]
theorem n120 : Tryz.f120.ntmps = 9 := by kernel_rfl
theorem r120 : resT Tryz.f120.results.toList = some [2] := by kernel_rfl
theorem x120 : cmpF Tryz.prog Tryz.f120 = some (expand T120 2 X120) := by kernel_rfl
end Go.Proofs.YtlbiogokpadaoaaGreatDoor
