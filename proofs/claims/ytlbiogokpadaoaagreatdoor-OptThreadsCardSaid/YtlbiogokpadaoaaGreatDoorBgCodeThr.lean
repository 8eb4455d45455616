/- Printed by program: the small code of functions, and that it is theirs. -/
import Derived.Test.YtlbiogokpadaoaaGreatDoorSxCall
import Derived.Test.YtlbiogokpadaoaaGreatDoorProg
import Derived.KernelRfl
set_option linter.unusedSimpArgs false
set_option linter.unusedVariables false
set_option linter.unnecessarySimpa false
namespace Go.Proofs.YtlbiogokpadaoaaGreatDoor
open Go Go.Sx
set_option maxRecDepth 100000
def T4n0 : XC := .seq (.ops [XS.mk (some 2) none (XI.k (XK.mov (Operand.const (Value.bool true))))]) (.ret)
def T4n1 : XC := .seq (.ops [XS.mk (some 16) none (XI.k (XK.mov (Operand.tmp 0))), XS.mk (some 17) none (XI.call 15 [Operand.const (Value.int IntKind.i64 1), Operand.tmp 16]), XS.mk (some 2) none (XI.k (XK.mov (Operand.tmp 17)))]) (.ret)
def T4n2 : XC := .seq (.seq (.ops [XS.mk (some 3) none (XI.k (XK.mov (Operand.tmp 0))), XS.mk (some 4) none (XI.k (XK.lenS (Operand.tmp 3))), XS.mk (some 5) none (XI.k (XK.cmp BinOp.gtr IntKind.i64 (Operand.tmp 4) (Operand.const (Value.int IntKind.i64 300)))), XS.mk (some 6) none (XI.k (XK.mov (Operand.tmp 5))), XS.mk (some 7) (some (6, true)) (XI.k (XK.mov (Operand.tmp 0))), XS.mk (some 8) (some (6, true)) (XI.k (XK.lenS (Operand.tmp 7))), XS.mk (some 9) (some (6, true)) (XI.k (XK.cmp BinOp.leq IntKind.i64 (Operand.tmp 8) (Operand.const (Value.int IntKind.i64 1024)))), XS.mk (some 10) none (XI.k (XK.pick (Operand.tmp 6) (Operand.tmp 9) (Operand.const (Value.bool false)))), XS.mk (some 11) none (XI.k (XK.mov (Operand.tmp 10))), XS.mk (some 12) (some (11, false)) (XI.k (XK.mov (Operand.tmp 0))), XS.mk (some 13) (some (11, false)) (XI.k (XK.lenS (Operand.tmp 12))), XS.mk (some 14) (some (11, false)) (XI.k (XK.cmp BinOp.gtr IntKind.i64 (Operand.tmp 13) (Operand.const (Value.int IntKind.i64 1100)))), XS.mk (some 15) none (XI.k (XK.pick (Operand.tmp 11) (Operand.const (Value.bool true)) (Operand.tmp 14)))]) (.cond (Operand.tmp 15) (.ref 0) (.skip))) (.ref 1)
def T4 : Nat → XC
  | 0 => T4n0
  | 1 => T4n1
  | 2 => T4n2
  | _ => .skip
theorem t4n0 : T4 0 = T4n0 := rfl
theorem t4n1 : T4 1 = T4n1 := rfl
theorem t4n2 : T4 2 = T4n2 := rfl
def X4 : XC := .seq (.ops [XS.mk (some 2) none (XI.k (XK.mov (Operand.const (Value.bool false))))]) (.ref 2)
abbrev K4 : List Nat := [0, 2, 15]
theorem n4 : Tryz.f4.ntmps = 18 := by kernel_rfl
theorem r4 : resT Tryz.f4.results.toList = some [2] := by kernel_rfl
theorem x4 : cmpF Tryz.prog Tryz.f4 = some (expand T4 4 X4) := by kernel_rfl
def T15n0 : XC := .seq (.ops [XS.mk (some 4) none (XI.k (XK.mov (Operand.const (Value.bool false))))]) (.ret)
def T15n1 : XC := .ops [XS.mk (some 63) none (XI.k (XK.mov (Operand.tmp 6))), XS.mk (some 64) none (XI.k (XK.mov (Operand.tmp 10))), XS.mk (some 65) none (XI.k (XK.idx 5 (Operand.tmp 63) (Operand.tmp 64))), XS.mk (some 66) none (XI.k (XK.fld 0 (Operand.tmp 65))), XS.mk none none (XI.k (XK.store 1 (Operand.tmp 66) (Operand.const (Value.int IntKind.i64 77))))]
def T15n2 : XC := .seq (.blk 1 (.seq (.ops [XS.mk (some 62) none (XI.k (XK.mov (Operand.tmp 60))), XS.mk (some 10) none (XI.k (XK.mov (Operand.tmp 62)))]) (.ref 1))) (.ops [XS.mk (some 67) none (XI.k (XK.arith BinOp.add IntKind.i64 (Operand.tmp 60) (Operand.const (Value.int IntKind.i64 1)))), XS.mk (some 60) none (XI.k (XK.mov (Operand.tmp 67)))])
def T15n3 : XC := .seq (.cond (Operand.tmp 61) (.skip) (.exit 0)) (.ref 2)
def T15n4 : XC := .seq (.ops [XS.mk (some 61) none (XI.k (XK.cmp BinOp.lss IntKind.i64 (Operand.tmp 60) (Operand.tmp 59)))]) (.ref 3)
def T15n5 : XC := .seq (.ops [XS.mk (some 72) none (XI.k (XK.mov (Operand.tmp 5))), XS.mk (some 73) none (XI.k (XK.mov (Operand.tmp 1))), XS.mk (some 74) none (XI.k (XK.lenS (Operand.tmp 73))), XS.mk (some 75) none (XI.k (XK.sub 5 (Operand.tmp 72) none (some (Operand.tmp 74)))), XS.mk (some 76) none (XI.k (XK.mov (Operand.tmp 1))), XS.mk (some 77) none (XI.call 31 [Operand.tmp 75, Operand.tmp 76]), XS.mk (some 78) none (XI.k (XK.mov (Operand.tmp 77))), XS.mk (some 79) (some (78, true)) (XI.k (XK.mov (Operand.tmp 5))), XS.mk (some 80) (some (78, true)) (XI.k (XK.mov (Operand.tmp 1))), XS.mk (some 81) (some (78, true)) (XI.k (XK.lenS (Operand.tmp 80))), XS.mk (some 82) (some (78, true)) (XI.k (XK.idx 5 (Operand.tmp 79) (Operand.tmp 81))), XS.mk (some 83) (some (78, true)) (XI.k (XK.fld 0 (Operand.tmp 82))), XS.mk (some 84) (some (78, true)) (XI.k (XK.load [CK.int IntKind.i64] false (Operand.tmp 83))), XS.mk (some 85) (some (78, true)) (XI.k (XK.cmp BinOp.eql IntKind.i64 (Operand.tmp 84) (Operand.const (Value.int IntKind.i64 77)))), XS.mk (some 86) none (XI.k (XK.pick (Operand.tmp 78) (Operand.tmp 85) (Operand.const (Value.bool false)))), XS.mk (some 87) none (XI.k (XK.mov (Operand.tmp 86))), XS.mk (some 88) (some (87, true)) (XI.k (XK.mov (Operand.tmp 6))), XS.mk (some 89) (some (87, true)) (XI.k (XK.lenS (Operand.tmp 88))), XS.mk (some 90) (some (87, true)) (XI.k (XK.mov (Operand.tmp 8))), XS.mk (some 91) (some (87, true)) (XI.k (XK.lenS (Operand.tmp 90))), XS.mk (some 92) (some (87, true)) (XI.k (XK.arith BinOp.add IntKind.i64 (Operand.tmp 91) (Operand.const (Value.int IntKind.i64 1)))), XS.mk (some 93) (some (87, true)) (XI.k (XK.cmp BinOp.eql IntKind.i64 (Operand.tmp 89) (Operand.tmp 92))), XS.mk (some 94) none (XI.k (XK.pick (Operand.tmp 87) (Operand.tmp 93) (Operand.const (Value.bool false)))), XS.mk (some 4) none (XI.k (XK.mov (Operand.tmp 94)))]) (.ret)
def T15n6 : XC := .seq (.ops [XS.mk (some 68) none (XI.k (XK.mov (Operand.tmp 6))), XS.mk (some 69) none (XI.k (XK.build [Value.int IntKind.i64 0, Value.int IntKind.i64 0, Value.int IntKind.i64 0, Value.int IntKind.i64 0, Value.int IntKind.i64 0] [(0, 1, Operand.const (Value.int IntKind.i64 78))])), XS.mk (some 70) none (XI.k (XK.buildS 41 1 5 [Value.int IntKind.i64 0, Value.int IntKind.i64 0, Value.int IntKind.i64 0, Value.int IntKind.i64 0, Value.int IntKind.i64 0] [(0, Operand.tmp 69)])), XS.mk (some 71) none (XI.k (XK.app 41 5 40 (Operand.tmp 68) (Operand.tmp 70))), XS.mk (some 6) none (XI.k (XK.mov (Operand.tmp 71)))]) (.ref 5)
def T15n7 : XC := .seq (.seq (.ops [XS.mk (some 58) none (XI.k (XK.mov (Operand.tmp 6))), XS.mk (some 59) none (XI.k (XK.lenS (Operand.tmp 58))), XS.mk (some 60) none (XI.k (XK.mov (Operand.const (Value.int IntKind.i64 0))))]) (.blk 0 (.loop (.ref 4)))) (.ref 6)
def T15n8 : XC := .seq (.seq (.ops [XS.mk (some 31) none (XI.k (XK.mov (Operand.tmp 7))), XS.mk (some 32) none (XI.k (XK.mov (Operand.tmp 9))), XS.mk (some 33) none (XI.k (XK.cmp BinOp.neq IntKind.i64 (Operand.tmp 31) (Operand.tmp 32))), XS.mk (some 34) none (XI.k (XK.mov (Operand.tmp 33))), XS.mk (some 35) (some (34, false)) (XI.k (XK.mov (Operand.tmp 6))), XS.mk (some 36) (some (34, false)) (XI.k (XK.mov (Operand.tmp 8))), XS.mk (some 37) (some (34, false)) (XI.call 31 [Operand.tmp 35, Operand.tmp 36]), XS.mk (some 38) (some (34, false)) (XI.k (XK.not (Operand.tmp 37))), XS.mk (some 39) none (XI.k (XK.pick (Operand.tmp 34) (Operand.const (Value.bool true)) (Operand.tmp 38))), XS.mk (some 40) none (XI.k (XK.mov (Operand.tmp 39))), XS.mk (some 41) (some (40, false)) (XI.k (XK.mov (Operand.tmp 5))), XS.mk (some 42) (some (40, false)) (XI.k (XK.mov (Operand.tmp 1))), XS.mk (some 43) (some (40, false)) (XI.k (XK.lenS (Operand.tmp 42))), XS.mk (some 44) (some (40, false)) (XI.k (XK.sub 5 (Operand.tmp 41) none (some (Operand.tmp 43)))), XS.mk (some 45) (some (40, false)) (XI.k (XK.mov (Operand.tmp 1))), XS.mk (some 46) (some (40, false)) (XI.call 31 [Operand.tmp 44, Operand.tmp 45]), XS.mk (some 47) (some (40, false)) (XI.k (XK.not (Operand.tmp 46))), XS.mk (some 48) none (XI.k (XK.pick (Operand.tmp 40) (Operand.const (Value.bool true)) (Operand.tmp 47))), XS.mk (some 49) none (XI.k (XK.mov (Operand.tmp 48))), XS.mk (some 50) (some (49, false)) (XI.k (XK.mov (Operand.tmp 5))), XS.mk (some 51) (some (49, false)) (XI.k (XK.mov (Operand.tmp 1))), XS.mk (some 52) (some (49, false)) (XI.k (XK.lenS (Operand.tmp 51))), XS.mk (some 53) (some (49, false)) (XI.k (XK.idx 5 (Operand.tmp 50) (Operand.tmp 52))), XS.mk (some 54) (some (49, false)) (XI.k (XK.fld 0 (Operand.tmp 53))), XS.mk (some 55) (some (49, false)) (XI.k (XK.load [CK.int IntKind.i64] false (Operand.tmp 54))), XS.mk (some 56) (some (49, false)) (XI.k (XK.cmp BinOp.neq IntKind.i64 (Operand.tmp 55) (Operand.const (Value.int IntKind.i64 77)))), XS.mk (some 57) none (XI.k (XK.pick (Operand.tmp 49) (Operand.const (Value.bool true)) (Operand.tmp 56)))]) (.cond (Operand.tmp 57) (.ref 0) (.skip))) (.ref 7)
def T15n9 : XC := .seq (.ops [XS.mk (some 26) none (XI.k (XK.mov (Operand.tmp 0))), XS.mk (some 27) none (XI.k (XK.mov (Operand.tmp 1))), XS.mk (some 28) none (XI.call 30 [Operand.tmp 26, Operand.tmp 27]), XS.mk (some 25) none (XI.k (XK.mov (Operand.tmp 28))), XS.mk (some 29) none (XI.k (XK.ext (Operand.tmp 25) 0)), XS.mk (some 30) none (XI.k (XK.ext (Operand.tmp 25) 1)), XS.mk (some 8) none (XI.k (XK.mov (Operand.tmp 29))), XS.mk (some 9) none (XI.k (XK.mov (Operand.tmp 30)))]) (.ref 8)
def T15n10 : XC := .seq (.ops [XS.mk (some 17) none (XI.k (XK.mov (Operand.tmp 0))), XS.mk (some 18) none (XI.k (XK.mov (Operand.tmp 5))), XS.mk (some 19) none (XI.k (XK.mov (Operand.tmp 1))), XS.mk (some 20) none (XI.k (XK.lenS (Operand.tmp 19))), XS.mk (some 21) none (XI.k (XK.sub 5 (Operand.tmp 18) none (some (Operand.tmp 20)))), XS.mk (some 22) none (XI.call 27 [Operand.tmp 17, Operand.tmp 21]), XS.mk (some 16) none (XI.k (XK.mov (Operand.tmp 22))), XS.mk (some 23) none (XI.k (XK.ext (Operand.tmp 16) 0)), XS.mk (some 24) none (XI.k (XK.ext (Operand.tmp 16) 1)), XS.mk (some 6) none (XI.k (XK.mov (Operand.tmp 23))), XS.mk (some 7) none (XI.k (XK.mov (Operand.tmp 24)))]) (.ref 9)
def T15n11 : XC := .seq (.ops [XS.mk (some 11) none (XI.k (XK.mov (Operand.tmp 1))), XS.mk (some 12) none (XI.call 29 [Operand.tmp 11]), XS.mk (some 13) none (XI.k (XK.build [Value.int IntKind.i64 0, Value.int IntKind.i64 0, Value.int IntKind.i64 0, Value.int IntKind.i64 0, Value.int IntKind.i64 0] [(0, 1, Operand.const (Value.int IntKind.i64 77))])), XS.mk (some 14) none (XI.k (XK.buildS 41 1 5 [Value.int IntKind.i64 0, Value.int IntKind.i64 0, Value.int IntKind.i64 0, Value.int IntKind.i64 0, Value.int IntKind.i64 0] [(0, Operand.tmp 13)])), XS.mk (some 15) none (XI.k (XK.app 41 5 40 (Operand.tmp 12) (Operand.tmp 14))), XS.mk (some 5) none (XI.k (XK.mov (Operand.tmp 15)))]) (.ref 10)
def T15 : Nat → XC
  | 0 => T15n0
  | 1 => T15n1
  | 2 => T15n2
  | 3 => T15n3
  | 4 => T15n4
  | 5 => T15n5
  | 6 => T15n6
  | 7 => T15n7
  | 8 => T15n8
  | 9 => T15n9
  | 10 => T15n10
  | 11 => T15n11
  | _ => .skip
theorem t15n0 : T15 0 = T15n0 := rfl
theorem t15n1 : T15 1 = T15n1 := rfl
theorem t15n2 : T15 2 = T15n2 := rfl
theorem t15n3 : T15 3 = T15n3 := rfl
theorem t15n4 : T15 4 = T15n4 := rfl
theorem t15n5 : T15 5 = T15n5 := rfl
theorem t15n6 : T15 6 = T15n6 := rfl
theorem t15n7 : T15 7 = T15n7 := rfl
theorem t15n8 : T15 8 = T15n8 := rfl
theorem t15n9 : T15 9 = T15n9 := rfl
theorem t15n10 : T15 10 = T15n10 := rfl
theorem t15n11 : T15 11 = T15n11 := rfl
def X15 : XC := .seq (.ops [XS.mk (some 4) none (XI.k (XK.mov (Operand.const (Value.bool false))))]) (.ref 11)
abbrev K15 : List Nat := [0, 1, 4, 5, 6, 7, 8, 9, 10, 57, 59, 60, 61]
theorem n15 : Tryz.f15.ntmps = 95 := by kernel_rfl
theorem r15 : resT Tryz.f15.results.toList = some [4] := by kernel_rfl
theorem x15 : cmpF Tryz.prog Tryz.f15 = some (expand T15 13 X15) := by kernel_rfl
def T27n0 : XC := .seq (.ops [XS.mk (some 9) none (XI.k (XK.mov (Operand.tmp 1))), XS.mk (some 10) none (XI.call 55 [Operand.tmp 9]), XS.mk (some 11) none (XI.k (XK.ext (Operand.tmp 10) 0)), XS.mk (some 12) none (XI.k (XK.ext (Operand.tmp 10) 1)), XS.mk (some 4) none (XI.k (XK.mov (Operand.tmp 11))), XS.mk (some 5) none (XI.k (XK.mov (Operand.tmp 12)))]) (.ret)
def T27n1 : XC := .seq (.ops [XS.mk (some 15) none (XI.k (XK.mov (Operand.tmp 1))), XS.mk (some 16) none (XI.call 56 [Operand.tmp 15]), XS.mk (some 17) none (XI.k (XK.ext (Operand.tmp 16) 0)), XS.mk (some 18) none (XI.k (XK.ext (Operand.tmp 16) 1)), XS.mk (some 4) none (XI.k (XK.mov (Operand.tmp 17))), XS.mk (some 5) none (XI.k (XK.mov (Operand.tmp 18)))]) (.ret)
def T27n2 : XC := .seq (.ops [XS.mk (some 21) none (XI.k (XK.mov (Operand.tmp 1))), XS.mk (some 22) none (XI.call 57 [Operand.tmp 21]), XS.mk (some 23) none (XI.k (XK.ext (Operand.tmp 22) 0)), XS.mk (some 24) none (XI.k (XK.ext (Operand.tmp 22) 1)), XS.mk (some 4) none (XI.k (XK.mov (Operand.tmp 23))), XS.mk (some 5) none (XI.k (XK.mov (Operand.tmp 24)))]) (.ret)
def T27n3 : XC := .seq (.ops [XS.mk (some 27) none (XI.k (XK.mov (Operand.tmp 1))), XS.mk (some 28) none (XI.call 58 [Operand.tmp 27]), XS.mk (some 29) none (XI.k (XK.ext (Operand.tmp 28) 0)), XS.mk (some 30) none (XI.k (XK.ext (Operand.tmp 28) 1)), XS.mk (some 4) none (XI.k (XK.mov (Operand.tmp 29))), XS.mk (some 5) none (XI.k (XK.mov (Operand.tmp 30)))]) (.ret)
def T27n4 : XC := .seq (.ops [XS.mk (some 26) none (XI.k (XK.cmp BinOp.eql IntKind.i64 (Operand.tmp 6) (Operand.const (Value.int IntKind.i64 3)))), XS.mk (some 25) none (XI.k (XK.mov (Operand.tmp 26)))]) (.cond (Operand.tmp 25) (.ref 3) (.skip))
def T27n5 : XC := .seq (.ops [XS.mk (some 20) none (XI.k (XK.cmp BinOp.eql IntKind.i64 (Operand.tmp 6) (Operand.const (Value.int IntKind.i64 2)))), XS.mk (some 19) none (XI.k (XK.mov (Operand.tmp 20)))]) (.cond (Operand.tmp 19) (.ref 2) (.ref 4))
def T27n6 : XC := .seq (.ops [XS.mk (some 14) none (XI.k (XK.cmp BinOp.eql IntKind.i64 (Operand.tmp 6) (Operand.const (Value.int IntKind.i64 1)))), XS.mk (some 13) none (XI.k (XK.mov (Operand.tmp 14)))]) (.cond (Operand.tmp 13) (.ref 1) (.ref 5))
def T27n7 : XC := .blk 0 (.seq (.ops [XS.mk (some 8) none (XI.k (XK.cmp BinOp.eql IntKind.i64 (Operand.tmp 6) (Operand.const (Value.int IntKind.i64 0)))), XS.mk (some 7) none (XI.k (XK.mov (Operand.tmp 8)))]) (.cond (Operand.tmp 7) (.ref 0) (.ref 6)))
def T27n8 : XC := .seq (.ops [XS.mk (some 31) none (XI.k (XK.mov (Operand.tmp 1))), XS.mk (some 32) none (XI.call 26 [Operand.tmp 31]), XS.mk (some 33) none (XI.k (XK.ext (Operand.tmp 32) 0)), XS.mk (some 34) none (XI.k (XK.ext (Operand.tmp 32) 1)), XS.mk (some 4) none (XI.k (XK.mov (Operand.tmp 33))), XS.mk (some 5) none (XI.k (XK.mov (Operand.tmp 34)))]) (.ret)
def T27n9 : XC := .seq (.seq (.ops [XS.mk (some 6) none (XI.k (XK.mov (Operand.tmp 0)))]) (.ref 7)) (.ref 8)
def T27 : Nat → XC
  | 0 => T27n0
  | 1 => T27n1
  | 2 => T27n2
  | 3 => T27n3
  | 4 => T27n4
  | 5 => T27n5
  | 6 => T27n6
  | 7 => T27n7
  | 8 => T27n8
  | 9 => T27n9
  | _ => .skip
theorem t27n0 : T27 0 = T27n0 := rfl
theorem t27n1 : T27 1 = T27n1 := rfl
theorem t27n2 : T27 2 = T27n2 := rfl
theorem t27n3 : T27 3 = T27n3 := rfl
theorem t27n4 : T27 4 = T27n4 := rfl
theorem t27n5 : T27 5 = T27n5 := rfl
theorem t27n6 : T27 6 = T27n6 := rfl
theorem t27n7 : T27 7 = T27n7 := rfl
theorem t27n8 : T27 8 = T27n8 := rfl
theorem t27n9 : T27 9 = T27n9 := rfl
def X27 : XC := .seq (.ops [XS.mk (some 4) none (XI.k (XK.mov (Operand.const (Value.slice none 0 0)))), XS.mk (some 5) none (XI.k (XK.mov (Operand.const (Value.int IntKind.i64 0))))]) (.ref 9)
abbrev K27 : List Nat := [0, 1, 4, 5, 6, 7, 13, 19, 25]
theorem n27 : Tryz.f27.ntmps = 35 := by kernel_rfl
theorem r27 : resT Tryz.f27.results.toList = some [4, 5] := by kernel_rfl
theorem x27 : cmpF Tryz.prog Tryz.f27 = some (expand T27 11 X27) := by kernel_rfl
def T30n0 : XC := .seq (.ops [XS.mk (some 4) none (XI.k (XK.mov (Operand.const (Value.slice none 0 0)))), XS.mk (some 5) none (XI.k (XK.mov (Operand.const (Value.int IntKind.i64 2))))]) (.ret)
def T30n1 : XC := .seq (.ops [XS.mk (some 12) none (XI.k (XK.mov (Operand.tmp 1))), XS.mk (some 13) none (XI.call 61 [Operand.tmp 12]), XS.mk (some 4) none (XI.k (XK.mov (Operand.tmp 13))), XS.mk (some 5) none (XI.k (XK.mov (Operand.const (Value.int IntKind.i64 0))))]) (.ret)
def T30n2 : XC := .seq (.ops [XS.mk (some 16) none (XI.k (XK.mov (Operand.tmp 1))), XS.mk (some 17) none (XI.call 62 [Operand.tmp 16]), XS.mk (some 4) none (XI.k (XK.mov (Operand.tmp 17))), XS.mk (some 5) none (XI.k (XK.mov (Operand.const (Value.int IntKind.i64 0))))]) (.ret)
def T30n3 : XC := .seq (.ops [XS.mk (some 20) none (XI.k (XK.mov (Operand.tmp 1))), XS.mk (some 21) none (XI.call 63 [Operand.tmp 20]), XS.mk (some 4) none (XI.k (XK.mov (Operand.tmp 21))), XS.mk (some 5) none (XI.k (XK.mov (Operand.const (Value.int IntKind.i64 0))))]) (.ret)
def T30n4 : XC := .seq (.ops [XS.mk (some 24) none (XI.k (XK.mov (Operand.tmp 1))), XS.mk (some 25) none (XI.call 64 [Operand.tmp 24]), XS.mk (some 4) none (XI.k (XK.mov (Operand.tmp 25))), XS.mk (some 5) none (XI.k (XK.mov (Operand.const (Value.int IntKind.i64 0))))]) (.ret)
def T30n5 : XC := .seq (.ops [XS.mk (some 23) none (XI.k (XK.cmp BinOp.eql IntKind.i64 (Operand.tmp 9) (Operand.const (Value.int IntKind.i64 3)))), XS.mk (some 22) none (XI.k (XK.mov (Operand.tmp 23)))]) (.cond (Operand.tmp 22) (.ref 4) (.skip))
def T30n6 : XC := .seq (.ops [XS.mk (some 19) none (XI.k (XK.cmp BinOp.eql IntKind.i64 (Operand.tmp 9) (Operand.const (Value.int IntKind.i64 2)))), XS.mk (some 18) none (XI.k (XK.mov (Operand.tmp 19)))]) (.cond (Operand.tmp 18) (.ref 3) (.ref 5))
def T30n7 : XC := .seq (.ops [XS.mk (some 15) none (XI.k (XK.cmp BinOp.eql IntKind.i64 (Operand.tmp 9) (Operand.const (Value.int IntKind.i64 1)))), XS.mk (some 14) none (XI.k (XK.mov (Operand.tmp 15)))]) (.cond (Operand.tmp 14) (.ref 2) (.ref 6))
def T30n8 : XC := .blk 0 (.seq (.ops [XS.mk (some 11) none (XI.k (XK.cmp BinOp.eql IntKind.i64 (Operand.tmp 9) (Operand.const (Value.int IntKind.i64 0)))), XS.mk (some 10) none (XI.k (XK.mov (Operand.tmp 11)))]) (.cond (Operand.tmp 10) (.ref 1) (.ref 7)))
def T30n9 : XC := .seq (.ops [XS.mk (some 26) none (XI.k (XK.mov (Operand.tmp 1))), XS.mk (some 27) none (XI.call 65 [Operand.tmp 26]), XS.mk (some 4) none (XI.k (XK.mov (Operand.tmp 27))), XS.mk (some 5) none (XI.k (XK.mov (Operand.const (Value.int IntKind.i64 0))))]) (.ret)
def T30n10 : XC := .seq (.seq (.ops [XS.mk (some 9) none (XI.k (XK.mov (Operand.tmp 0)))]) (.ref 8)) (.ref 9)
def T30n11 : XC := .seq (.seq (.ops [XS.mk (some 6) none (XI.k (XK.mov (Operand.tmp 1))), XS.mk (some 7) none (XI.k (XK.lenS (Operand.tmp 6))), XS.mk (some 8) none (XI.k (XK.cmp BinOp.gtr IntKind.i64 (Operand.tmp 7) (Operand.const (Value.int IntKind.i64 1024))))]) (.cond (Operand.tmp 8) (.ref 0) (.skip))) (.ref 10)
def T30 : Nat → XC
  | 0 => T30n0
  | 1 => T30n1
  | 2 => T30n2
  | 3 => T30n3
  | 4 => T30n4
  | 5 => T30n5
  | 6 => T30n6
  | 7 => T30n7
  | 8 => T30n8
  | 9 => T30n9
  | 10 => T30n10
  | 11 => T30n11
  | _ => .skip
theorem t30n0 : T30 0 = T30n0 := rfl
theorem t30n1 : T30 1 = T30n1 := rfl
theorem t30n2 : T30 2 = T30n2 := rfl
theorem t30n3 : T30 3 = T30n3 := rfl
theorem t30n4 : T30 4 = T30n4 := rfl
theorem t30n5 : T30 5 = T30n5 := rfl
theorem t30n6 : T30 6 = T30n6 := rfl
theorem t30n7 : T30 7 = T30n7 := rfl
theorem t30n8 : T30 8 = T30n8 := rfl
theorem t30n9 : T30 9 = T30n9 := rfl
theorem t30n10 : T30 10 = T30n10 := rfl
theorem t30n11 : T30 11 = T30n11 := rfl
def X30 : XC := .seq (.ops [XS.mk (some 4) none (XI.k (XK.mov (Operand.const (Value.slice none 0 0)))), XS.mk (some 5) none (XI.k (XK.mov (Operand.const (Value.int IntKind.i64 0))))]) (.ref 11)
abbrev K30 : List Nat := [0, 1, 4, 5, 8, 9, 10, 14, 18, 22]
theorem n30 : Tryz.f30.ntmps = 28 := by kernel_rfl
theorem r30 : resT Tryz.f30.results.toList = some [4, 5] := by kernel_rfl
theorem x30 : cmpF Tryz.prog Tryz.f30 = some (expand T30 13 X30) := by kernel_rfl
def T29n0 : XC := .seq (.ops [XS.mk (some 4) none (XI.k (XK.mov (Operand.tmp 3))), XS.mk (some 5) none (XI.k (XK.mov (Operand.tmp 0))), XS.mk (some 6) none (XI.k (XK.app 41 5 40 (Operand.tmp 4) (Operand.tmp 5))), XS.mk (some 2) none (XI.k (XK.mov (Operand.tmp 6)))]) (.ret)
def T29n1 : XC := .seq (.ops [XS.mk (some 3) none (XI.k (XK.mov (Operand.const (Value.slice none 0 0))))]) (.ref 0)
def T29 : Nat → XC
  | 0 => T29n0
  | 1 => T29n1
  | _ => .skip
theorem t29n0 : T29 0 = T29n0 := rfl
theorem t29n1 : T29 1 = T29n1 := rfl
def X29 : XC := .seq (.ops [XS.mk (some 2) none (XI.k (XK.mov (Operand.const (Value.slice none 0 0))))]) (.ref 1)
abbrev K29 : List Nat := [0, 2, 3]
theorem n29 : Tryz.f29.ntmps = 7 := by kernel_rfl
theorem r29 : resT Tryz.f29.results.toList = some [2] := by kernel_rfl
theorem x29 : cmpF Tryz.prog Tryz.f29 = some (expand T29 3 X29) := by kernel_rfl
def T31n0 : XC := .seq (.ops [XS.mk (some 4) none (XI.k (XK.mov (Operand.const (Value.bool false))))]) (.ret)
def T31n1 : XC := .seq (.ops [XS.mk (some 4) none (XI.k (XK.mov (Operand.const (Value.bool false))))]) (.ret)
def T31n2 : XC := .ops [XS.mk (some 15) none (XI.k (XK.mov (Operand.tmp 5))), XS.mk (some 16) none (XI.k (XK.arith BinOp.add IntKind.i64 (Operand.tmp 15) (Operand.const (Value.int IntKind.i64 1)))), XS.mk (some 5) none (XI.k (XK.mov (Operand.tmp 16)))]
def T31n3 : XC := .seq (.blk 1 (.seq (.ops [XS.mk (some 17) none (XI.k (XK.mov (Operand.tmp 0))), XS.mk (some 18) none (XI.k (XK.mov (Operand.tmp 5))), XS.mk (some 19) none (XI.k (XK.idx 5 (Operand.tmp 17) (Operand.tmp 18))), XS.mk (some 20) none (XI.k (XK.load [CK.int IntKind.i64, CK.int IntKind.i64, CK.int IntKind.i64, CK.int IntKind.i64, CK.int IntKind.i64] true (Operand.tmp 19))), XS.mk (some 21) none (XI.k (XK.mov (Operand.tmp 1))), XS.mk (some 22) none (XI.k (XK.mov (Operand.tmp 5))), XS.mk (some 23) none (XI.k (XK.idx 5 (Operand.tmp 21) (Operand.tmp 22))), XS.mk (some 24) none (XI.k (XK.load [CK.int IntKind.i64, CK.int IntKind.i64, CK.int IntKind.i64, CK.int IntKind.i64, CK.int IntKind.i64] true (Operand.tmp 23))), XS.mk (some 25) none (XI.k (XK.eqa true [CK.int IntKind.i64, CK.int IntKind.i64, CK.int IntKind.i64, CK.int IntKind.i64, CK.int IntKind.i64] (Operand.tmp 20) (Operand.tmp 24)))]) (.cond (Operand.tmp 25) (.ref 1) (.skip)))) (.ref 2)
def T31n4 : XC := .seq (.seq (.ops [XS.mk (some 11) none (XI.k (XK.mov (Operand.tmp 5))), XS.mk (some 12) none (XI.k (XK.mov (Operand.tmp 0))), XS.mk (some 13) none (XI.k (XK.lenS (Operand.tmp 12))), XS.mk (some 14) none (XI.k (XK.cmp BinOp.lss IntKind.i64 (Operand.tmp 11) (Operand.tmp 13)))]) (.cond (Operand.tmp 14) (.skip) (.exit 0))) (.ref 3)
def T31n5 : XC := .seq (.ops [XS.mk (some 4) none (XI.k (XK.mov (Operand.const (Value.bool true))))]) (.ret)
def T31n6 : XC := .seq (.seq (.ops [XS.mk (some 5) none (XI.k (XK.mov (Operand.const (Value.int IntKind.i64 0))))]) (.blk 0 (.loop (.ref 4)))) (.ref 5)
def T31n7 : XC := .seq (.seq (.ops [XS.mk (some 6) none (XI.k (XK.mov (Operand.tmp 0))), XS.mk (some 7) none (XI.k (XK.lenS (Operand.tmp 6))), XS.mk (some 8) none (XI.k (XK.mov (Operand.tmp 1))), XS.mk (some 9) none (XI.k (XK.lenS (Operand.tmp 8))), XS.mk (some 10) none (XI.k (XK.cmp BinOp.neq IntKind.i64 (Operand.tmp 7) (Operand.tmp 9)))]) (.cond (Operand.tmp 10) (.ref 0) (.skip))) (.ref 6)
def T31 : Nat → XC
  | 0 => T31n0
  | 1 => T31n1
  | 2 => T31n2
  | 3 => T31n3
  | 4 => T31n4
  | 5 => T31n5
  | 6 => T31n6
  | 7 => T31n7
  | _ => .skip
theorem t31n0 : T31 0 = T31n0 := rfl
theorem t31n1 : T31 1 = T31n1 := rfl
theorem t31n2 : T31 2 = T31n2 := rfl
theorem t31n3 : T31 3 = T31n3 := rfl
theorem t31n4 : T31 4 = T31n4 := rfl
theorem t31n5 : T31 5 = T31n5 := rfl
theorem t31n6 : T31 6 = T31n6 := rfl
theorem t31n7 : T31 7 = T31n7 := rfl
def X31 : XC := .seq (.ops [XS.mk (some 4) none (XI.k (XK.mov (Operand.const (Value.bool false))))]) (.ref 7)
abbrev K31 : List Nat := [0, 1, 4, 5, 10, 14, 25]
theorem n31 : Tryz.f31.ntmps = 26 := by kernel_rfl
theorem r31 : resT Tryz.f31.results.toList = some [4] := by kernel_rfl
theorem x31 : cmpF Tryz.prog Tryz.f31 = some (expand T31 9 X31) := by kernel_rfl
def T82n0 : XC := .seq (.ops [XS.mk (some 2) none (XI.k (XK.mov (Operand.const (Value.slice none 0 0))))]) (.ret)
def T82n1 : XC := .seq (.ops [XS.mk (some 5) none (XI.k (XK.buildS 41 0 5 [Value.int IntKind.i64 0, Value.int IntKind.i64 0, Value.int IntKind.i64 0, Value.int IntKind.i64 0, Value.int IntKind.i64 0] [])), XS.mk (some 6) none (XI.k (XK.mov (Operand.tmp 0))), XS.mk (some 7) none (XI.k (XK.app 41 5 40 (Operand.tmp 5) (Operand.tmp 6))), XS.mk (some 2) none (XI.k (XK.mov (Operand.tmp 7)))]) (.ret)
def T82n2 : XC := .seq (.seq (.ops [XS.mk (some 3) none (XI.k (XK.mov (Operand.tmp 0))), XS.mk (some 4) none (XI.k (XK.isnil NK.s false (Operand.tmp 3)))]) (.cond (Operand.tmp 4) (.ref 0) (.skip))) (.ref 1)
def T82 : Nat → XC
  | 0 => T82n0
  | 1 => T82n1
  | 2 => T82n2
  | _ => .skip
theorem t82n0 : T82 0 = T82n0 := rfl
theorem t82n1 : T82 1 = T82n1 := rfl
theorem t82n2 : T82 2 = T82n2 := rfl
def X82 : XC := .seq (.ops [XS.mk (some 2) none (XI.k (XK.mov (Operand.const (Value.slice none 0 0))))]) (.ref 2)
abbrev K82 : List Nat := [0, 2, 4]
theorem n82 : Tryz.f82.ntmps = 8 := by kernel_rfl
theorem r82 : resT Tryz.f82.results.toList = some [2] := by kernel_rfl
theorem x82 : cmpF Tryz.prog Tryz.f82 = some (expand T82 4 X82) := by kernel_rfl
def T56n0 : XC := .seq (.ops [XS.mk (some 2) none (XI.k (XK.mov (Operand.const (Value.slice none 0 0)))), XS.mk (some 3) none (XI.k (XK.mov (Operand.const (Value.int IntKind.i64 2))))]) (.ret)
def T56n1 : XC := .seq (.ops [XS.mk (some 66) none (XI.k (XK.mov (Operand.tmp 11))), XS.mk (some 67) none (XI.k (XK.not (Operand.tmp 66))), XS.mk (some 68) none (XI.k (XK.mov (Operand.tmp 67))), XS.mk (some 69) (some (68, false)) (XI.k (XK.mov (Operand.tmp 14))), XS.mk (some 70) none (XI.k (XK.pick (Operand.tmp 68) (Operand.const (Value.bool true)) (Operand.tmp 69)))]) (.cond (Operand.tmp 70) (.exit 2) (.skip))
def T56n2 : XC := .ops [XS.mk (some 71) none (XI.k (XK.mov (Operand.tmp 0))), XS.mk (some 72) none (XI.k (XK.mov (Operand.tmp 10))), XS.mk (some 73) none (XI.k (XK.idx 5 (Operand.tmp 71) (Operand.tmp 72))), XS.mk (some 74) none (XI.k (XK.fld 4 (Operand.tmp 73))), XS.mk (some 75) none (XI.k (XK.load [CK.int IntKind.i64] false (Operand.tmp 74))), XS.mk (some 10) none (XI.k (XK.mov (Operand.tmp 75)))]
def T56n3 : XC := .seq (.seq (.ops [XS.mk (some 57) none (XI.k (XK.mov (Operand.tmp 9))), XS.mk (some 58) none (XI.k (XK.mov (Operand.tmp 0))), XS.mk (some 59) none (XI.k (XK.mov (Operand.tmp 10))), XS.mk (some 60) none (XI.k (XK.idx 5 (Operand.tmp 58) (Operand.tmp 59))), XS.mk (some 61) none (XI.k (XK.fld 4 (Operand.tmp 60))), XS.mk (some 62) none (XI.k (XK.load [CK.int IntKind.i64] false (Operand.tmp 61))), XS.mk (some 63) none (XI.k (XK.lkup (CK.int IntKind.i64) (Value.agg (Array.mk [])) true (Operand.tmp 57) (Operand.tmp 62))), XS.mk (some 56) none (XI.k (XK.mov (Operand.tmp 63))), XS.mk (some 64) none (XI.k (XK.ext (Operand.tmp 56) 0)), XS.mk (some 65) none (XI.k (XK.ext (Operand.tmp 56) 1)), XS.mk (some 13) none (XI.k (XK.alloc 131 [])), XS.mk none none (XI.k (XK.str0 (Operand.tmp 13) (Operand.tmp 64))), XS.mk (some 14) none (XI.k (XK.mov (Operand.tmp 65)))]) (.ref 1)) (.ref 2)
def T56n4 : XC := .seq (.ops [XS.mk (some 49) none (XI.k (XK.mov (Operand.tmp 0))), XS.mk (some 50) none (XI.k (XK.mov (Operand.tmp 10))), XS.mk (some 51) none (XI.k (XK.idx 5 (Operand.tmp 49) (Operand.tmp 50))), XS.mk (some 52) none (XI.k (XK.load [CK.int IntKind.i64, CK.int IntKind.i64, CK.int IntKind.i64, CK.int IntKind.i64, CK.int IntKind.i64] true (Operand.tmp 51))), XS.mk (some 53) none (XI.call 84 [Operand.tmp 52]), XS.mk (some 48) none (XI.k (XK.mov (Operand.tmp 53))), XS.mk (some 54) none (XI.k (XK.ext (Operand.tmp 48) 0)), XS.mk (some 55) none (XI.k (XK.ext (Operand.tmp 48) 1)), XS.mk (some 11) none (XI.k (XK.mov (Operand.tmp 54))), XS.mk (some 12) none (XI.k (XK.mov (Operand.tmp 55)))]) (.ref 3)
def T56n5 : XC := .blk 3 (.seq (.ops [XS.mk (some 45) none (XI.k (XK.mov (Operand.tmp 9))), XS.mk (some 46) none (XI.k (XK.mov (Operand.tmp 10))), XS.mk (some 47) none (XI.k (XK.build [] [])), XS.mk none none (XI.k (XK.mupd (CK.int IntKind.i64) (Operand.tmp 45) (Operand.tmp 46) (Operand.tmp 47)))]) (.ref 4))
def T56n6 : XC := .seq (.seq (.ops [XS.mk (some 41) none (XI.k (XK.mov (Operand.tmp 10))), XS.mk (some 42) none (XI.k (XK.mov (Operand.tmp 0))), XS.mk (some 43) none (XI.k (XK.lenS (Operand.tmp 42))), XS.mk (some 44) none (XI.k (XK.cmp BinOp.lss IntKind.i64 (Operand.tmp 41) (Operand.tmp 43)))]) (.cond (Operand.tmp 44) (.skip) (.exit 2))) (.ref 5)
def T56n7 : XC := .ops [XS.mk (some 76) none (XI.k (XK.mov (Operand.tmp 4))), XS.mk (some 77) none (XI.k (XK.mov (Operand.tmp 5))), XS.mk (some 78) none (XI.k (XK.mov (Operand.tmp 10))), XS.mk (some 79) none (XI.k (XK.idx 5 (Operand.tmp 76) (Operand.tmp 77))), XS.mk (some 80) none (XI.k (XK.fld 4 (Operand.tmp 79))), XS.mk none none (XI.k (XK.store 1 (Operand.tmp 80) (Operand.tmp 78)))]
def T56n8 : XC := .seq (.blk 2 (.loop (.ref 6))) (.ref 7)
def T56n9 : XC := .seq (.ops [XS.mk (some 39) none (XI.k (XK.fld 4 (Operand.tmp 6))), XS.mk (some 40) none (XI.k (XK.load [CK.int IntKind.i64] false (Operand.tmp 39))), XS.mk (some 10) none (XI.k (XK.mov (Operand.tmp 40)))]) (.ref 8)
def T56n10 : XC := .seq (.ops [XS.mk (some 38) none (XI.k XK.mkmap), XS.mk (some 9) none (XI.k (XK.mov (Operand.tmp 38)))]) (.ref 9)
def T56n11 : XC := .seq (.seq (.ops [XS.mk (some 32) none (XI.k (XK.mov (Operand.tmp 7))), XS.mk (some 33) none (XI.k (XK.not (Operand.tmp 32))), XS.mk (some 34) none (XI.k (XK.mov (Operand.tmp 33))), XS.mk (some 35) (some (34, true)) (XI.k (XK.mov (Operand.tmp 8))), XS.mk (some 36) (some (34, true)) (XI.k (XK.not (Operand.tmp 35))), XS.mk (some 37) none (XI.k (XK.pick (Operand.tmp 34) (Operand.tmp 36) (Operand.const (Value.bool false))))]) (.cond (Operand.tmp 37) (.exit 1) (.skip))) (.ref 10)
def T56n12 : XC := .seq (.ops [XS.mk (some 28) none (XI.k (XK.load [CK.int IntKind.i64, CK.int IntKind.i64, CK.int IntKind.i64, CK.int IntKind.i64, CK.int IntKind.i64] true (Operand.tmp 6))), XS.mk (some 29) none (XI.call 84 [Operand.tmp 28]), XS.mk (some 27) none (XI.k (XK.mov (Operand.tmp 29))), XS.mk (some 30) none (XI.k (XK.ext (Operand.tmp 27) 0)), XS.mk (some 31) none (XI.k (XK.ext (Operand.tmp 27) 1)), XS.mk (some 7) none (XI.k (XK.mov (Operand.tmp 30))), XS.mk (some 8) none (XI.k (XK.mov (Operand.tmp 31)))]) (.ref 11)
def T56n13 : XC := .seq (.blk 1 (.seq (.ops [XS.mk (some 24) none (XI.k (XK.mov (Operand.tmp 22))), XS.mk (some 25) none (XI.k (XK.idx 5 (Operand.tmp 20) (Operand.tmp 22))), XS.mk (some 26) none (XI.k (XK.load [CK.int IntKind.i64, CK.int IntKind.i64, CK.int IntKind.i64, CK.int IntKind.i64, CK.int IntKind.i64] true (Operand.tmp 25))), XS.mk (some 6) none (XI.k (XK.alloc 41 [Value.int IntKind.i64 0, Value.int IntKind.i64 0, Value.int IntKind.i64 0, Value.int IntKind.i64 0, Value.int IntKind.i64 0])), XS.mk (some 5) none (XI.k (XK.mov (Operand.tmp 24))), XS.mk none none (XI.k (XK.store 5 (Operand.tmp 6) (Operand.tmp 26)))]) (.ref 12))) (.ops [XS.mk (some 81) none (XI.k (XK.arith BinOp.add IntKind.i64 (Operand.tmp 22) (Operand.const (Value.int IntKind.i64 1)))), XS.mk (some 22) none (XI.k (XK.mov (Operand.tmp 81)))])
def T56n14 : XC := .seq (.cond (Operand.tmp 23) (.skip) (.exit 0)) (.ref 13)
def T56n15 : XC := .seq (.ops [XS.mk (some 23) none (XI.k (XK.cmp BinOp.lss IntKind.i64 (Operand.tmp 22) (Operand.tmp 21)))]) (.ref 14)
def T56n16 : XC := .seq (.ops [XS.mk (some 82) none (XI.k (XK.mov (Operand.tmp 4))), XS.mk (some 2) none (XI.k (XK.mov (Operand.tmp 82))), XS.mk (some 3) none (XI.k (XK.mov (Operand.const (Value.int IntKind.i64 0))))]) (.ret)
def T56n17 : XC := .seq (.seq (.ops [XS.mk (some 20) none (XI.k (XK.mov (Operand.tmp 0))), XS.mk (some 21) none (XI.k (XK.lenS (Operand.tmp 20))), XS.mk (some 22) none (XI.k (XK.mov (Operand.const (Value.int IntKind.i64 0))))]) (.blk 0 (.loop (.ref 15)))) (.ref 16)
def T56n18 : XC := .seq (.ops [XS.mk (some 18) none (XI.k (XK.mov (Operand.tmp 0))), XS.mk (some 19) none (XI.call 82 [Operand.tmp 18]), XS.mk (some 4) none (XI.k (XK.mov (Operand.tmp 19)))]) (.ref 17)
def T56n19 : XC := .seq (.seq (.ops [XS.mk (some 15) none (XI.k (XK.mov (Operand.tmp 0))), XS.mk (some 16) none (XI.k (XK.lenS (Operand.tmp 15))), XS.mk (some 17) none (XI.k (XK.cmp BinOp.gtr IntKind.i64 (Operand.tmp 16) (Operand.const (Value.int IntKind.i64 1024))))]) (.cond (Operand.tmp 17) (.ref 0) (.skip))) (.ref 18)
def T56 : Nat → XC
  | 0 => T56n0
  | 1 => T56n1
  | 2 => T56n2
  | 3 => T56n3
  | 4 => T56n4
  | 5 => T56n5
  | 6 => T56n6
  | 7 => T56n7
  | 8 => T56n8
  | 9 => T56n9
  | 10 => T56n10
  | 11 => T56n11
  | 12 => T56n12
  | 13 => T56n13
  | 14 => T56n14
  | 15 => T56n15
  | 16 => T56n16
  | 17 => T56n17
  | 18 => T56n18
  | 19 => T56n19
  | _ => .skip
theorem t56n0 : T56 0 = T56n0 := rfl
theorem t56n1 : T56 1 = T56n1 := rfl
theorem t56n2 : T56 2 = T56n2 := rfl
theorem t56n3 : T56 3 = T56n3 := rfl
theorem t56n4 : T56 4 = T56n4 := rfl
theorem t56n5 : T56 5 = T56n5 := rfl
theorem t56n6 : T56 6 = T56n6 := rfl
theorem t56n7 : T56 7 = T56n7 := rfl
theorem t56n8 : T56 8 = T56n8 := rfl
theorem t56n9 : T56 9 = T56n9 := rfl
theorem t56n10 : T56 10 = T56n10 := rfl
theorem t56n11 : T56 11 = T56n11 := rfl
theorem t56n12 : T56 12 = T56n12 := rfl
theorem t56n13 : T56 13 = T56n13 := rfl
theorem t56n14 : T56 14 = T56n14 := rfl
theorem t56n15 : T56 15 = T56n15 := rfl
theorem t56n16 : T56 16 = T56n16 := rfl
theorem t56n17 : T56 17 = T56n17 := rfl
theorem t56n18 : T56 18 = T56n18 := rfl
theorem t56n19 : T56 19 = T56n19 := rfl
def X56 : XC := .seq (.ops [XS.mk (some 2) none (XI.k (XK.mov (Operand.const (Value.slice none 0 0)))), XS.mk (some 3) none (XI.k (XK.mov (Operand.const (Value.int IntKind.i64 0))))]) (.ref 19)
abbrev K56 : List Nat := [0, 2, 3, 4, 5, 6, 7, 8, 9, 10, 11, 14, 17, 20, 21, 22, 23, 37, 44, 70]
theorem n56 : Tryz.f56.ntmps = 83 := by kernel_rfl
theorem r56 : resT Tryz.f56.results.toList = some [2, 3] := by kernel_rfl
theorem x56 : cmpF Tryz.prog Tryz.f56 = some (expand T56 21 X56) := by kernel_rfl
def T84n0 : XC := .seq (.ops [XS.mk (some 2) none (XI.k (XK.mov (Operand.const (Value.bool false)))), XS.mk (some 3) none (XI.k (XK.mov (Operand.const (Value.bool false))))]) (.ret)
def T84n1 : XC := .seq (.ops [XS.mk (some 17) none (XI.k (XK.fld 0 (Operand.tmp 1))), XS.mk (some 18) none (XI.k (XK.load [CK.int IntKind.i64] false (Operand.tmp 17))), XS.mk (some 19) none (XI.k (XK.cmp BinOp.eql IntKind.i64 (Operand.tmp 18) (Operand.const (Value.int IntKind.i64 13)))), XS.mk (some 20) none (XI.k (XK.fld 0 (Operand.tmp 1))), XS.mk (some 21) none (XI.k (XK.load [CK.int IntKind.i64] false (Operand.tmp 20))), XS.mk (some 22) none (XI.k (XK.cmp BinOp.geq IntKind.i64 (Operand.tmp 21) (Operand.const (Value.int IntKind.i64 14)))), XS.mk (some 23) none (XI.k (XK.mov (Operand.tmp 22))), XS.mk (some 24) (some (23, true)) (XI.k (XK.fld 0 (Operand.tmp 1))), XS.mk (some 25) (some (23, true)) (XI.k (XK.load [CK.int IntKind.i64] false (Operand.tmp 24))), XS.mk (some 26) (some (23, true)) (XI.k (XK.cmp BinOp.leq IntKind.i64 (Operand.tmp 25) (Operand.const (Value.int IntKind.i64 16)))), XS.mk (some 27) none (XI.k (XK.pick (Operand.tmp 23) (Operand.tmp 26) (Operand.const (Value.bool false)))), XS.mk (some 2) none (XI.k (XK.mov (Operand.tmp 19))), XS.mk (some 3) none (XI.k (XK.mov (Operand.tmp 27)))]) (.ret)
def T84n2 : XC := .seq (.seq (.ops [XS.mk (some 4) none (XI.k (XK.load [CK.int IntKind.i64, CK.int IntKind.i64, CK.int IntKind.i64, CK.int IntKind.i64, CK.int IntKind.i64] true (Operand.tmp 1))), XS.mk (some 5) none (XI.call 21 [Operand.tmp 4]), XS.mk (some 6) none (XI.k (XK.not (Operand.tmp 5))), XS.mk (some 7) none (XI.k (XK.mov (Operand.tmp 6))), XS.mk (some 8) (some (7, false)) (XI.k (XK.fld 4 (Operand.tmp 1))), XS.mk (some 9) (some (7, false)) (XI.k (XK.load [CK.int IntKind.i64] false (Operand.tmp 8))), XS.mk (some 10) (some (7, false)) (XI.k (XK.cmp BinOp.lss IntKind.i64 (Operand.tmp 9) (Operand.const (Value.int IntKind.i64 0)))), XS.mk (some 11) none (XI.k (XK.pick (Operand.tmp 7) (Operand.const (Value.bool true)) (Operand.tmp 10))), XS.mk (some 12) none (XI.k (XK.mov (Operand.tmp 11))), XS.mk (some 13) (some (12, false)) (XI.k (XK.fld 4 (Operand.tmp 1))), XS.mk (some 14) (some (12, false)) (XI.k (XK.load [CK.int IntKind.i64] false (Operand.tmp 13))), XS.mk (some 15) (some (12, false)) (XI.k (XK.cmp BinOp.gtr IntKind.i64 (Operand.tmp 14) (Operand.const (Value.int IntKind.i64 1024)))), XS.mk (some 16) none (XI.k (XK.pick (Operand.tmp 12) (Operand.const (Value.bool true)) (Operand.tmp 15)))]) (.cond (Operand.tmp 16) (.ref 0) (.skip))) (.ref 1)
def T84 : Nat → XC
  | 0 => T84n0
  | 1 => T84n1
  | 2 => T84n2
  | _ => .skip
theorem t84n0 : T84 0 = T84n0 := rfl
theorem t84n1 : T84 1 = T84n1 := rfl
theorem t84n2 : T84 2 = T84n2 := rfl
def X84 : XC := .seq (.ops [XS.mk (some 1) none (XI.k (XK.box 41 5 (Operand.tmp 0))), XS.mk (some 2) none (XI.k (XK.mov (Operand.const (Value.bool false)))), XS.mk (some 3) none (XI.k (XK.mov (Operand.const (Value.bool false))))]) (.ref 2)
abbrev K84 : List Nat := [0, 1, 2, 3, 16]
theorem n84 : Tryz.f84.ntmps = 28 := by kernel_rfl
theorem r84 : resT Tryz.f84.results.toList = some [2, 3] := by kernel_rfl
theorem x84 : cmpF Tryz.prog Tryz.f84 = some (expand T84 4 X84) := by kernel_rfl
def T62n0 : XC := .ops [XS.mk (some 58) none (XI.k (XK.mov (Operand.tmp 11))), XS.mk (some 59) none (XI.k (XK.arith BinOp.add IntKind.i64 (Operand.tmp 58) (Operand.const (Value.int IntKind.i64 1)))), XS.mk (some 11) none (XI.k (XK.mov (Operand.tmp 59)))]
def T62n1 : XC := .seq (.blk 5 (.ops [XS.mk (some 60) none (XI.k (XK.mov (Operand.tmp 10))), XS.mk (some 61) none (XI.k (XK.mov (Operand.tmp 60))), XS.mk (some 62) (some (61, false)) (XI.k (XK.mov (Operand.tmp 6))), XS.mk (some 63) (some (61, false)) (XI.k (XK.mov (Operand.tmp 11))), XS.mk (some 64) (some (61, false)) (XI.k (XK.idx 1 (Operand.tmp 62) (Operand.tmp 63))), XS.mk (some 65) (some (61, false)) (XI.k (XK.load [CK.int IntKind.i64] false (Operand.tmp 64))), XS.mk (some 66) (some (61, false)) (XI.k (XK.mov (Operand.tmp 0))), XS.mk (some 67) (some (61, false)) (XI.k (XK.mov (Operand.tmp 8))), XS.mk (some 68) (some (61, false)) (XI.k (XK.idx 5 (Operand.tmp 66) (Operand.tmp 67))), XS.mk (some 69) (some (61, false)) (XI.k (XK.fld 4 (Operand.tmp 68))), XS.mk (some 70) (some (61, false)) (XI.k (XK.load [CK.int IntKind.i64] false (Operand.tmp 69))), XS.mk (some 71) (some (61, false)) (XI.k (XK.cmp BinOp.eql IntKind.i64 (Operand.tmp 65) (Operand.tmp 70))), XS.mk (some 72) none (XI.k (XK.pick (Operand.tmp 61) (Operand.const (Value.bool true)) (Operand.tmp 71))), XS.mk (some 10) none (XI.k (XK.mov (Operand.tmp 72)))])) (.ref 0)
def T62n2 : XC := .seq (.seq (.ops [XS.mk (some 54) none (XI.k (XK.mov (Operand.tmp 11))), XS.mk (some 55) none (XI.k (XK.mov (Operand.tmp 6))), XS.mk (some 56) none (XI.k (XK.lenS (Operand.tmp 55))), XS.mk (some 57) none (XI.k (XK.cmp BinOp.lss IntKind.i64 (Operand.tmp 54) (Operand.tmp 56)))]) (.cond (Operand.tmp 57) (.skip) (.exit 4))) (.ref 1)
def T62n3 : XC := .ops [XS.mk (some 78) none (XI.k (XK.mov (Operand.tmp 6))), XS.mk (some 79) none (XI.k (XK.mov (Operand.tmp 0))), XS.mk (some 80) none (XI.k (XK.mov (Operand.tmp 8))), XS.mk (some 81) none (XI.k (XK.idx 5 (Operand.tmp 79) (Operand.tmp 80))), XS.mk (some 82) none (XI.k (XK.fld 4 (Operand.tmp 81))), XS.mk (some 83) none (XI.k (XK.load [CK.int IntKind.i64] false (Operand.tmp 82))), XS.mk (some 84) none (XI.k (XK.buildS 3 1 1 [Value.int IntKind.i64 0] [(0, Operand.tmp 83)])), XS.mk (some 85) none (XI.k (XK.app 3 1 8 (Operand.tmp 78) (Operand.tmp 84))), XS.mk (some 6) none (XI.k (XK.mov (Operand.tmp 85)))]
def T62n4 : XC := .seq (.seq (.ops [XS.mk (some 73) none (XI.k (XK.mov (Operand.tmp 9))), XS.mk (some 74) none (XI.k (XK.cmp BinOp.neq IntKind.i64 (Operand.tmp 73) (Operand.const (Value.int IntKind.i64 1)))), XS.mk (some 75) none (XI.k (XK.mov (Operand.tmp 74))), XS.mk (some 76) (some (75, false)) (XI.k (XK.mov (Operand.tmp 10))), XS.mk (some 77) none (XI.k (XK.pick (Operand.tmp 75) (Operand.const (Value.bool true)) (Operand.tmp 76)))]) (.cond (Operand.tmp 77) (.exit 2) (.skip))) (.ref 3)
def T62n5 : XC := .seq (.seq (.ops [XS.mk (some 11) none (XI.k (XK.mov (Operand.const (Value.int IntKind.i64 0))))]) (.blk 4 (.loop (.ref 2)))) (.ref 4)
def T62n6 : XC := .seq (.ops [XS.mk (some 10) none (XI.k (XK.mov (Operand.const (Value.bool false))))]) (.ref 5)
def T62n7 : XC := .seq (.ops [XS.mk (some 49) none (XI.k (XK.mov (Operand.tmp 0))), XS.mk (some 50) none (XI.k (XK.mov (Operand.tmp 8))), XS.mk (some 51) none (XI.k (XK.idx 5 (Operand.tmp 49) (Operand.tmp 50))), XS.mk (some 52) none (XI.k (XK.load [CK.int IntKind.i64, CK.int IntKind.i64, CK.int IntKind.i64, CK.int IntKind.i64, CK.int IntKind.i64] true (Operand.tmp 51))), XS.mk (some 53) none (XI.call 93 [Operand.tmp 52]), XS.mk (some 9) none (XI.k (XK.mov (Operand.tmp 53)))]) (.ref 6)
def T62n8 : XC := .seq (.seq (.ops [XS.mk (some 45) none (XI.k (XK.mov (Operand.tmp 8))), XS.mk (some 46) none (XI.k (XK.mov (Operand.tmp 0))), XS.mk (some 47) none (XI.k (XK.lenS (Operand.tmp 46))), XS.mk (some 48) none (XI.k (XK.cmp BinOp.geq IntKind.i64 (Operand.tmp 45) (Operand.tmp 47)))]) (.cond (Operand.tmp 48) (.exit 2) (.skip))) (.ref 7)
def T62n9 : XC := .ops [XS.mk (some 37) none (XI.k (XK.mov (Operand.tmp 7))), XS.mk (some 38) none (XI.k (XK.arith BinOp.add IntKind.i64 (Operand.tmp 37) (Operand.const (Value.int IntKind.i64 1)))), XS.mk (some 7) none (XI.k (XK.mov (Operand.tmp 38)))]
def T62n10 : XC := .seq (.blk 3 (.seq (.ops [XS.mk (some 39) none (XI.k (XK.mov (Operand.tmp 6))), XS.mk (some 40) none (XI.k (XK.mov (Operand.tmp 6))), XS.mk (some 41) none (XI.k (XK.lenS (Operand.tmp 40))), XS.mk (some 42) none (XI.k (XK.arith BinOp.sub IntKind.i64 (Operand.tmp 41) (Operand.const (Value.int IntKind.i64 1)))), XS.mk (some 43) none (XI.k (XK.idx 1 (Operand.tmp 39) (Operand.tmp 42))), XS.mk (some 44) none (XI.k (XK.load [CK.int IntKind.i64] false (Operand.tmp 43))), XS.mk (some 8) none (XI.k (XK.mov (Operand.tmp 44)))]) (.ref 8))) (.ref 9)
def T62n11 : XC := .seq (.seq (.ops [XS.mk (some 33) none (XI.k (XK.mov (Operand.tmp 7))), XS.mk (some 34) none (XI.k (XK.mov (Operand.tmp 0))), XS.mk (some 35) none (XI.k (XK.lenS (Operand.tmp 34))), XS.mk (some 36) none (XI.k (XK.cmp BinOp.lss IntKind.i64 (Operand.tmp 33) (Operand.tmp 35)))]) (.cond (Operand.tmp 36) (.skip) (.exit 2))) (.ref 10)
def T62n12 : XC := .ops [XS.mk (some 86) none (XI.k (XK.mov (Operand.tmp 3))), XS.mk (some 87) none (XI.k (XK.mov (Operand.tmp 4))), XS.mk (some 88) none (XI.k (XK.mov (Operand.tmp 6))), XS.mk (some 89) none (XI.k (XK.mov (Operand.tmp 6))), XS.mk (some 90) none (XI.k (XK.lenS (Operand.tmp 89))), XS.mk (some 91) none (XI.k (XK.arith BinOp.sub IntKind.i64 (Operand.tmp 90) (Operand.const (Value.int IntKind.i64 1)))), XS.mk (some 92) none (XI.k (XK.idx 1 (Operand.tmp 88) (Operand.tmp 91))), XS.mk (some 93) none (XI.k (XK.load [CK.int IntKind.i64] false (Operand.tmp 92))), XS.mk (some 94) none (XI.k (XK.idx 5 (Operand.tmp 86) (Operand.tmp 87))), XS.mk (some 95) none (XI.k (XK.fld 4 (Operand.tmp 94))), XS.mk none none (XI.k (XK.store 1 (Operand.tmp 95) (Operand.tmp 93)))]
def T62n13 : XC := .seq (.seq (.ops [XS.mk (some 7) none (XI.k (XK.mov (Operand.const (Value.int IntKind.i64 0))))]) (.blk 2 (.loop (.ref 11)))) (.ref 12)
def T62n14 : XC := .seq (.ops [XS.mk (some 27) none (XI.k (XK.mov (Operand.tmp 0))), XS.mk (some 28) none (XI.k (XK.mov (Operand.tmp 4))), XS.mk (some 29) none (XI.k (XK.idx 5 (Operand.tmp 27) (Operand.tmp 28))), XS.mk (some 30) none (XI.k (XK.fld 4 (Operand.tmp 29))), XS.mk (some 31) none (XI.k (XK.load [CK.int IntKind.i64] false (Operand.tmp 30))), XS.mk (some 32) none (XI.k (XK.buildS 3 1 1 [Value.int IntKind.i64 0] [(0, Operand.tmp 31)])), XS.mk (some 6) none (XI.k (XK.mov (Operand.tmp 32)))]) (.ref 13)
def T62n15 : XC := .seq (.seq (.ops [XS.mk (some 25) none (XI.k (XK.mov (Operand.tmp 5))), XS.mk (some 26) none (XI.k (XK.cmp BinOp.eql IntKind.i64 (Operand.tmp 25) (Operand.const (Value.int IntKind.i64 0))))]) (.cond (Operand.tmp 26) (.exit 1) (.skip))) (.ref 14)
def T62n16 : XC := .ops [XS.mk (some 18) none (XI.k (XK.mov (Operand.tmp 4))), XS.mk (some 19) none (XI.k (XK.arith BinOp.add IntKind.i64 (Operand.tmp 18) (Operand.const (Value.int IntKind.i64 1)))), XS.mk (some 4) none (XI.k (XK.mov (Operand.tmp 19)))]
def T62n17 : XC := .seq (.blk 1 (.seq (.ops [XS.mk (some 20) none (XI.k (XK.mov (Operand.tmp 0))), XS.mk (some 21) none (XI.k (XK.mov (Operand.tmp 4))), XS.mk (some 22) none (XI.k (XK.idx 5 (Operand.tmp 20) (Operand.tmp 21))), XS.mk (some 23) none (XI.k (XK.load [CK.int IntKind.i64, CK.int IntKind.i64, CK.int IntKind.i64, CK.int IntKind.i64, CK.int IntKind.i64] true (Operand.tmp 22))), XS.mk (some 24) none (XI.call 93 [Operand.tmp 23]), XS.mk (some 5) none (XI.k (XK.mov (Operand.tmp 24)))]) (.ref 15))) (.ref 16)
def T62n18 : XC := .seq (.seq (.ops [XS.mk (some 14) none (XI.k (XK.mov (Operand.tmp 4))), XS.mk (some 15) none (XI.k (XK.mov (Operand.tmp 0))), XS.mk (some 16) none (XI.k (XK.lenS (Operand.tmp 15))), XS.mk (some 17) none (XI.k (XK.cmp BinOp.lss IntKind.i64 (Operand.tmp 14) (Operand.tmp 16)))]) (.cond (Operand.tmp 17) (.skip) (.exit 0))) (.ref 17)
def T62n19 : XC := .seq (.ops [XS.mk (some 96) none (XI.k (XK.mov (Operand.tmp 3))), XS.mk (some 2) none (XI.k (XK.mov (Operand.tmp 96)))]) (.ret)
def T62n20 : XC := .seq (.seq (.ops [XS.mk (some 4) none (XI.k (XK.mov (Operand.const (Value.int IntKind.i64 0))))]) (.blk 0 (.loop (.ref 18)))) (.ref 19)
def T62n21 : XC := .seq (.ops [XS.mk (some 12) none (XI.k (XK.mov (Operand.tmp 0))), XS.mk (some 13) none (XI.call 29 [Operand.tmp 12]), XS.mk (some 3) none (XI.k (XK.mov (Operand.tmp 13)))]) (.ref 20)
def T62 : Nat → XC
  | 0 => T62n0
  | 1 => T62n1
  | 2 => T62n2
  | 3 => T62n3
  | 4 => T62n4
  | 5 => T62n5
  | 6 => T62n6
  | 7 => T62n7
  | 8 => T62n8
  | 9 => T62n9
  | 10 => T62n10
  | 11 => T62n11
  | 12 => T62n12
  | 13 => T62n13
  | 14 => T62n14
  | 15 => T62n15
  | 16 => T62n16
  | 17 => T62n17
  | 18 => T62n18
  | 19 => T62n19
  | 20 => T62n20
  | 21 => T62n21
  | _ => .skip
theorem t62n0 : T62 0 = T62n0 := rfl
theorem t62n1 : T62 1 = T62n1 := rfl
theorem t62n2 : T62 2 = T62n2 := rfl
theorem t62n3 : T62 3 = T62n3 := rfl
theorem t62n4 : T62 4 = T62n4 := rfl
theorem t62n5 : T62 5 = T62n5 := rfl
theorem t62n6 : T62 6 = T62n6 := rfl
theorem t62n7 : T62 7 = T62n7 := rfl
theorem t62n8 : T62 8 = T62n8 := rfl
theorem t62n9 : T62 9 = T62n9 := rfl
theorem t62n10 : T62 10 = T62n10 := rfl
theorem t62n11 : T62 11 = T62n11 := rfl
theorem t62n12 : T62 12 = T62n12 := rfl
theorem t62n13 : T62 13 = T62n13 := rfl
theorem t62n14 : T62 14 = T62n14 := rfl
theorem t62n15 : T62 15 = T62n15 := rfl
theorem t62n16 : T62 16 = T62n16 := rfl
theorem t62n17 : T62 17 = T62n17 := rfl
theorem t62n18 : T62 18 = T62n18 := rfl
theorem t62n19 : T62 19 = T62n19 := rfl
theorem t62n20 : T62 20 = T62n20 := rfl
theorem t62n21 : T62 21 = T62n21 := rfl
def X62 : XC := .seq (.ops [XS.mk (some 2) none (XI.k (XK.mov (Operand.const (Value.slice none 0 0))))]) (.ref 21)
abbrev K62 : List Nat := [0, 2, 3, 4, 5, 6, 7, 8, 9, 10, 11, 17, 26, 36, 48, 57, 77]
theorem n62 : Tryz.f62.ntmps = 97 := by kernel_rfl
theorem r62 : resT Tryz.f62.results.toList = some [2] := by kernel_rfl
theorem x62 : cmpF Tryz.prog Tryz.f62 = some (expand T62 23 X62) := by kernel_rfl
def T93n0 : XC := .seq (.ops [XS.mk (some 2) none (XI.k (XK.mov (Operand.const (Value.int IntKind.i64 0))))]) (.ret)
def T93n1 : XC := .seq (.ops [XS.mk (some 2) none (XI.k (XK.mov (Operand.const (Value.int IntKind.i64 1))))]) (.ret)
def T93n2 : XC := .seq (.ops [XS.mk (some 2) none (XI.k (XK.mov (Operand.const (Value.int IntKind.i64 2))))]) (.ret)
def T93n3 : XC := .seq (.ops [XS.mk (some 2) none (XI.k (XK.mov (Operand.const (Value.int IntKind.i64 0))))]) (.ret)
def T93n4 : XC := .seq (.seq (.ops [XS.mk (some 21) none (XI.k (XK.fld 0 (Operand.tmp 1))), XS.mk (some 22) none (XI.k (XK.load [CK.int IntKind.i64] false (Operand.tmp 21))), XS.mk (some 23) none (XI.k (XK.cmp BinOp.geq IntKind.i64 (Operand.tmp 22) (Operand.const (Value.int IntKind.i64 14)))), XS.mk (some 24) none (XI.k (XK.mov (Operand.tmp 23))), XS.mk (some 25) (some (24, true)) (XI.k (XK.fld 0 (Operand.tmp 1))), XS.mk (some 26) (some (24, true)) (XI.k (XK.load [CK.int IntKind.i64] false (Operand.tmp 25))), XS.mk (some 27) (some (24, true)) (XI.k (XK.cmp BinOp.leq IntKind.i64 (Operand.tmp 26) (Operand.const (Value.int IntKind.i64 16)))), XS.mk (some 28) none (XI.k (XK.pick (Operand.tmp 24) (Operand.tmp 27) (Operand.const (Value.bool false))))]) (.cond (Operand.tmp 28) (.ref 2) (.skip))) (.ref 3)
def T93n5 : XC := .seq (.seq (.ops [XS.mk (some 18) none (XI.k (XK.fld 0 (Operand.tmp 1))), XS.mk (some 19) none (XI.k (XK.load [CK.int IntKind.i64] false (Operand.tmp 18))), XS.mk (some 20) none (XI.k (XK.cmp BinOp.eql IntKind.i64 (Operand.tmp 19) (Operand.const (Value.int IntKind.i64 13))))]) (.cond (Operand.tmp 20) (.ref 1) (.skip))) (.ref 4)
def T93n6 : XC := .seq (.seq (.ops [XS.mk (some 6) none (XI.k (XK.mov (Operand.tmp 3))), XS.mk (some 7) none (XI.k (XK.not (Operand.tmp 6))), XS.mk (some 8) none (XI.k (XK.mov (Operand.tmp 7))), XS.mk (some 9) (some (8, false)) (XI.k (XK.fld 4 (Operand.tmp 1))), XS.mk (some 10) (some (8, false)) (XI.k (XK.load [CK.int IntKind.i64] false (Operand.tmp 9))), XS.mk (some 11) (some (8, false)) (XI.k (XK.cmp BinOp.lss IntKind.i64 (Operand.tmp 10) (Operand.const (Value.int IntKind.i64 0)))), XS.mk (some 12) none (XI.k (XK.pick (Operand.tmp 8) (Operand.const (Value.bool true)) (Operand.tmp 11))), XS.mk (some 13) none (XI.k (XK.mov (Operand.tmp 12))), XS.mk (some 14) (some (13, false)) (XI.k (XK.fld 4 (Operand.tmp 1))), XS.mk (some 15) (some (13, false)) (XI.k (XK.load [CK.int IntKind.i64] false (Operand.tmp 14))), XS.mk (some 16) (some (13, false)) (XI.k (XK.cmp BinOp.gtr IntKind.i64 (Operand.tmp 15) (Operand.const (Value.int IntKind.i64 1024)))), XS.mk (some 17) none (XI.k (XK.pick (Operand.tmp 13) (Operand.const (Value.bool true)) (Operand.tmp 16)))]) (.cond (Operand.tmp 17) (.ref 0) (.skip))) (.ref 5)
def T93n7 : XC := .seq (.ops [XS.mk (some 4) none (XI.k (XK.load [CK.int IntKind.i64, CK.int IntKind.i64, CK.int IntKind.i64, CK.int IntKind.i64, CK.int IntKind.i64] true (Operand.tmp 1))), XS.mk (some 5) none (XI.call 90 [Operand.tmp 4]), XS.mk (some 3) none (XI.k (XK.mov (Operand.tmp 5)))]) (.ref 6)
def T93 : Nat → XC
  | 0 => T93n0
  | 1 => T93n1
  | 2 => T93n2
  | 3 => T93n3
  | 4 => T93n4
  | 5 => T93n5
  | 6 => T93n6
  | 7 => T93n7
  | _ => .skip
theorem t93n0 : T93 0 = T93n0 := rfl
theorem t93n1 : T93 1 = T93n1 := rfl
theorem t93n2 : T93 2 = T93n2 := rfl
theorem t93n3 : T93 3 = T93n3 := rfl
theorem t93n4 : T93 4 = T93n4 := rfl
theorem t93n5 : T93 5 = T93n5 := rfl
theorem t93n6 : T93 6 = T93n6 := rfl
theorem t93n7 : T93 7 = T93n7 := rfl
def X93 : XC := .seq (.ops [XS.mk (some 1) none (XI.k (XK.box 41 5 (Operand.tmp 0))), XS.mk (some 2) none (XI.k (XK.mov (Operand.const (Value.int IntKind.i64 0))))]) (.ref 7)
abbrev K93 : List Nat := [0, 1, 2, 3, 17, 20, 28]
theorem n93 : Tryz.f93.ntmps = 29 := by kernel_rfl
theorem r93 : resT Tryz.f93.results.toList = some [2] := by kernel_rfl
theorem x93 : cmpF Tryz.prog Tryz.f93 = some (expand T93 9 X93) := by kernel_rfl
end Go.Proofs.YtlbiogokpadaoaaGreatDoor
