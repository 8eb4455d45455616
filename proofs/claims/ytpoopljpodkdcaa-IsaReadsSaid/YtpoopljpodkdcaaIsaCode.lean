/- Printed by program: the small code of functions, and that it is theirs. -/
import Derived.Test.YtpoopljpodkdcaaSxEval
import Derived.Test.YtpoopljpodkdcaaProg
import Derived.KernelRfl
set_option linter.unusedSimpArgs false
set_option linter.unusedVariables false
namespace Go.Proofs.Ytpoopljpodkdcaa
open Go Go.Sx
set_option maxRecDepth 100000
def T3n0 : XC := .seq (.ops [XS.mk (some 2) none (XI.k (XK.mov (Operand.const (Value.bool true))))]) (.ret)
def T3n1 : XC := .seq (.ops [XS.mk (some 2) none (XI.k (XK.mov (Operand.const (Value.bool false))))]) (.ret)
def T3n2 : XC := .ops [XS.mk (some 46) none (XI.k (XK.mov (Operand.tmp 5))), XS.mk (some 47) none (XI.k (XK.mov (Operand.tmp 7))), XS.mk (some 48) none (XI.k (XK.mov (Operand.tmp 5))), XS.mk (some 49) none (XI.k (XK.mov (Operand.tmp 7))), XS.mk (some 50) none (XI.k (XK.idx 5 (Operand.tmp 48) (Operand.tmp 49))), XS.mk (some 51) none (XI.k (XK.fld 0 (Operand.tmp 50))), XS.mk (some 52) none (XI.k (XK.load [CK.int IntKind.i64] false (Operand.tmp 51))), XS.mk (some 53) none (XI.k (XK.arith BinOp.add IntKind.i64 (Operand.tmp 52) (Operand.const (Value.int IntKind.i64 1)))), XS.mk (some 54) none (XI.k (XK.idx 5 (Operand.tmp 46) (Operand.tmp 47))), XS.mk (some 55) none (XI.k (XK.fld 0 (Operand.tmp 54))), XS.mk none none (XI.k (XK.store 1 (Operand.tmp 55) (Operand.tmp 53)))]
def T3n3 : XC := .seq (.blk 1 (.seq (.ops [XS.mk (some 45) none (XI.k (XK.mov (Operand.tmp 43))), XS.mk (some 7) none (XI.k (XK.mov (Operand.tmp 45)))]) (.ref 2))) (.ops [XS.mk (some 56) none (XI.k (XK.arith BinOp.add IntKind.i64 (Operand.tmp 43) (Operand.const (Value.int IntKind.i64 1)))), XS.mk (some 43) none (XI.k (XK.mov (Operand.tmp 56)))])
def T3n4 : XC := .seq (.cond (Operand.tmp 44) (.skip) (.exit 0)) (.ref 3)
def T3n5 : XC := .seq (.ops [XS.mk (some 44) none (XI.k (XK.cmp BinOp.lss IntKind.i64 (Operand.tmp 43) (Operand.tmp 42)))]) (.ref 4)
def T3n6 : XC := .seq (.ops [XS.mk (some 63) none (XI.k (XK.mov (Operand.tmp 6))), XS.mk (some 64) none (XI.k (XK.mov (Operand.tmp 4))), XS.mk (some 65) none (XI.call 7 [Operand.tmp 63, Operand.tmp 64]), XS.mk (some 66) none (XI.k (XK.mov (Operand.tmp 65))), XS.mk (some 67) (some (66, true)) (XI.k (XK.mov (Operand.tmp 8))), XS.mk (some 68) (some (66, true)) (XI.k (XK.mov (Operand.tmp 4))), XS.mk (some 69) (some (66, true)) (XI.call 7 [Operand.tmp 67, Operand.tmp 68]), XS.mk (some 70) none (XI.k (XK.pick (Operand.tmp 66) (Operand.tmp 69) (Operand.const (Value.bool false)))), XS.mk (some 71) none (XI.k (XK.mov (Operand.tmp 70))), XS.mk (some 72) (some (71, true)) (XI.k (XK.mov (Operand.tmp 5))), XS.mk (some 73) (some (71, true)) (XI.k (XK.mov (Operand.tmp 5))), XS.mk (some 74) (some (71, true)) (XI.k (XK.lenS (Operand.tmp 73))), XS.mk (some 75) (some (71, true)) (XI.k (XK.arith BinOp.sub IntKind.i64 (Operand.tmp 74) (Operand.const (Value.int IntKind.i64 1)))), XS.mk (some 76) (some (71, true)) (XI.k (XK.idx 5 (Operand.tmp 72) (Operand.tmp 75))), XS.mk (some 77) (some (71, true)) (XI.k (XK.fld 0 (Operand.tmp 76))), XS.mk (some 78) (some (71, true)) (XI.k (XK.load [CK.int IntKind.i64] false (Operand.tmp 77))), XS.mk (some 79) (some (71, true)) (XI.k (XK.cmp BinOp.eql IntKind.i64 (Operand.tmp 78) (Operand.const (Value.int IntKind.i64 9)))), XS.mk (some 80) none (XI.k (XK.pick (Operand.tmp 71) (Operand.tmp 79) (Operand.const (Value.bool false)))), XS.mk (some 2) none (XI.k (XK.mov (Operand.tmp 80)))]) (.ret)
def T3n7 : XC := .seq (.ops [XS.mk (some 61) none (XI.k (XK.mov (Operand.tmp 0))), XS.mk (some 62) none (XI.call 6 [Operand.tmp 61]), XS.mk (some 8) none (XI.k (XK.mov (Operand.tmp 62)))]) (.ref 6)
def T3n8 : XC := .seq (.ops [XS.mk (some 57) none (XI.k (XK.mov (Operand.tmp 5))), XS.mk (some 58) none (XI.k (XK.build [Value.int IntKind.i64 0, Value.int IntKind.i64 0, Value.int IntKind.i64 0, Value.int IntKind.i64 0, Value.int IntKind.i64 0] [(0, 1, Operand.const (Value.int IntKind.i64 9))])), XS.mk (some 59) none (XI.k (XK.buildS 27 1 5 [Value.int IntKind.i64 0, Value.int IntKind.i64 0, Value.int IntKind.i64 0, Value.int IntKind.i64 0, Value.int IntKind.i64 0] [(0, Operand.tmp 58)])), XS.mk (some 60) none (XI.k (XK.app 27 5 40 (Operand.tmp 57) (Operand.tmp 59))), XS.mk (some 5) none (XI.k (XK.mov (Operand.tmp 60)))]) (.ref 7)
def T3n9 : XC := .seq (.seq (.ops [XS.mk (some 41) none (XI.k (XK.mov (Operand.tmp 5))), XS.mk (some 42) none (XI.k (XK.lenS (Operand.tmp 41))), XS.mk (some 43) none (XI.k (XK.mov (Operand.const (Value.int IntKind.i64 0))))]) (.blk 0 (.loop (.ref 5)))) (.ref 8)
def T3n10 : XC := .seq (.seq (.ops [XS.mk (some 29) none (XI.k (XK.mov (Operand.tmp 5))), XS.mk (some 30) none (XI.k (XK.mov (Operand.tmp 4))), XS.mk (some 31) none (XI.call 7 [Operand.tmp 29, Operand.tmp 30]), XS.mk (some 32) none (XI.k (XK.not (Operand.tmp 31))), XS.mk (some 33) none (XI.k (XK.mov (Operand.tmp 32))), XS.mk (some 34) (some (33, false)) (XI.k (XK.mov (Operand.tmp 3))), XS.mk (some 35) (some (33, false)) (XI.k (XK.b2s (Operand.tmp 34))), XS.mk (some 36) (some (33, false)) (XI.k (XK.mov (Operand.tmp 0))), XS.mk (some 37) (some (33, false)) (XI.k (XK.b2s (Operand.tmp 36))), XS.mk (some 38) (some (33, false)) (XI.k (XK.cat (Operand.tmp 37) (Operand.const (Value.string (ByteArray.mk (Array.mk [UInt8.ofNat 1, UInt8.ofNat 2, UInt8.ofNat 3])))))), XS.mk (some 39) (some (33, false)) (XI.k (XK.eqs BinOp.neq (Operand.tmp 35) (Operand.tmp 38))), XS.mk (some 40) none (XI.k (XK.pick (Operand.tmp 33) (Operand.const (Value.bool true)) (Operand.tmp 39)))]) (.cond (Operand.tmp 40) (.ref 1) (.skip))) (.ref 9)
def T3n11 : XC := .seq (.ops [XS.mk (some 24) none (XI.k (XK.mov (Operand.tmp 3))), XS.mk (some 25) none (XI.k (XK.mov (Operand.tmp 0))), XS.mk (some 26) none (XI.k (XK.lenS (Operand.tmp 25))), XS.mk (some 27) none (XI.k (XK.sub 1 (Operand.tmp 24) none (some (Operand.tmp 26)))), XS.mk (some 28) none (XI.call 6 [Operand.tmp 27]), XS.mk (some 6) none (XI.k (XK.mov (Operand.tmp 28)))]) (.ref 10)
def T3n12 : XC := .seq (.ops [XS.mk (some 19) none (XI.k (XK.mov (Operand.tmp 3))), XS.mk (some 20) none (XI.k (XK.mov (Operand.tmp 0))), XS.mk (some 21) none (XI.k (XK.lenS (Operand.tmp 20))), XS.mk (some 22) none (XI.k (XK.sub 1 (Operand.tmp 19) none (some (Operand.tmp 21)))), XS.mk (some 23) none (XI.call 6 [Operand.tmp 22]), XS.mk (some 5) none (XI.k (XK.mov (Operand.tmp 23)))]) (.ref 11)
def T3n13 : XC := .seq (.ops [XS.mk (some 17) none (XI.k (XK.mov (Operand.tmp 0))), XS.mk (some 18) none (XI.call 5 [Operand.tmp 17]), XS.mk (some 4) none (XI.k (XK.mov (Operand.tmp 18)))]) (.ref 12)
def T3n14 : XC := .seq (.ops [XS.mk (some 12) none (XI.k (XK.buildS 5 0 1 [Value.int IntKind.u8 0] [])), XS.mk (some 13) none (XI.k (XK.mov (Operand.tmp 0))), XS.mk (some 14) none (XI.k (XK.app 5 1 1 (Operand.tmp 12) (Operand.tmp 13))), XS.mk (some 15) none (XI.k (XK.buildS 5 3 1 [Value.int IntKind.u8 0] [(0, Operand.const (Value.int IntKind.u8 1)), (1, Operand.const (Value.int IntKind.u8 2)), (2, Operand.const (Value.int IntKind.u8 3))])), XS.mk (some 16) none (XI.k (XK.app 5 1 1 (Operand.tmp 14) (Operand.tmp 15))), XS.mk (some 3) none (XI.k (XK.mov (Operand.tmp 16)))]) (.ref 13)
def T3n15 : XC := .seq (.seq (.ops [XS.mk (some 9) none (XI.k (XK.mov (Operand.tmp 0))), XS.mk (some 10) none (XI.k (XK.lenS (Operand.tmp 9))), XS.mk (some 11) none (XI.k (XK.cmp BinOp.gtr IntKind.i64 (Operand.tmp 10) (Operand.const (Value.int IntKind.i64 20000))))]) (.cond (Operand.tmp 11) (.ref 0) (.skip))) (.ref 14)
def T3 : Nat → XC
  | 0 => T3n0
  | 1 => T3n1
  | 2 => T3n2
  | 3 => T3n3
  | 4 => T3n4
  | 5 => T3n5
  | 6 => T3n6
  | 7 => T3n7
  | 8 => T3n8
  | 9 => T3n9
  | 10 => T3n10
  | 11 => T3n11
  | 12 => T3n12
  | 13 => T3n13
  | 14 => T3n14
  | 15 => T3n15
  | _ => .skip
theorem t3n0 : T3 0 = T3n0 := rfl
theorem t3n1 : T3 1 = T3n1 := rfl
theorem t3n2 : T3 2 = T3n2 := rfl
theorem t3n3 : T3 3 = T3n3 := rfl
theorem t3n4 : T3 4 = T3n4 := rfl
theorem t3n5 : T3 5 = T3n5 := rfl
theorem t3n6 : T3 6 = T3n6 := rfl
theorem t3n7 : T3 7 = T3n7 := rfl
theorem t3n8 : T3 8 = T3n8 := rfl
theorem t3n9 : T3 9 = T3n9 := rfl
theorem t3n10 : T3 10 = T3n10 := rfl
theorem t3n11 : T3 11 = T3n11 := rfl
theorem t3n12 : T3 12 = T3n12 := rfl
theorem t3n13 : T3 13 = T3n13 := rfl
theorem t3n14 : T3 14 = T3n14 := rfl
theorem t3n15 : T3 15 = T3n15 := rfl
def X3 : XC := .seq (.ops [XS.mk (some 2) none (XI.k (XK.mov (Operand.const (Value.bool false))))]) (.ref 15)
abbrev K3 : List Nat := [0, 2, 3, 4, 5, 6, 7, 8, 11, 40, 42, 43, 44]
theorem n3 : Try.f3.ntmps = 81 := by kernel_rfl
theorem r3 : resT Try.f3.results.toList = some [2] := by kernel_rfl
theorem x3 : cmpF Try.prog Try.f3 = some (expand T3 17 X3) := by kernel_rfl
def T4n0 : XC := .seq (.ops [XS.mk (some 2) none (XI.k (XK.mov (Operand.const (Value.bool true))))]) (.ret)
def T4n1 : XC := .seq (.ops [XS.mk (some 2) none (XI.k (XK.mov (Operand.const (Value.bool false))))]) (.ret)
def T4n2 : XC := .ops [XS.mk (some 87) none (XI.k (XK.mov (Operand.tmp 6))), XS.mk (some 88) none (XI.k (XK.mov (Operand.tmp 10))), XS.mk (some 89) none (XI.k (XK.mov (Operand.tmp 6))), XS.mk (some 90) none (XI.k (XK.mov (Operand.tmp 10))), XS.mk (some 91) none (XI.k (XK.idx 1 (Operand.tmp 89) (Operand.tmp 90))), XS.mk (some 92) none (XI.k (XK.load [CK.int IntKind.u8] false (Operand.tmp 91))), XS.mk (some 93) none (XI.k (XK.arith BinOp.add IntKind.u8 (Operand.tmp 92) (Operand.const (Value.int IntKind.u8 1)))), XS.mk (some 94) none (XI.k (XK.idx 1 (Operand.tmp 87) (Operand.tmp 88))), XS.mk none none (XI.k (XK.store 1 (Operand.tmp 94) (Operand.tmp 93)))]
def T4n3 : XC := .seq (.blk 1 (.seq (.ops [XS.mk (some 86) none (XI.k (XK.mov (Operand.tmp 84))), XS.mk (some 10) none (XI.k (XK.mov (Operand.tmp 86)))]) (.ref 2))) (.ops [XS.mk (some 95) none (XI.k (XK.arith BinOp.add IntKind.i64 (Operand.tmp 84) (Operand.const (Value.int IntKind.i64 1)))), XS.mk (some 84) none (XI.k (XK.mov (Operand.tmp 95)))])
def T4n4 : XC := .seq (.cond (Operand.tmp 85) (.skip) (.exit 0)) (.ref 3)
def T4n5 : XC := .seq (.ops [XS.mk (some 85) none (XI.k (XK.cmp BinOp.lss IntKind.i64 (Operand.tmp 84) (Operand.tmp 83)))]) (.ref 4)
def T4n6 : XC := .seq (.ops [XS.mk (some 99) none (XI.k (XK.mov (Operand.tmp 8))), XS.mk (some 100) none (XI.k (XK.b2s (Operand.tmp 99))), XS.mk (some 101) none (XI.k (XK.mov (Operand.tmp 4))), XS.mk (some 102) none (XI.k (XK.b2s (Operand.tmp 101))), XS.mk (some 103) none (XI.k (XK.eqs BinOp.eql (Operand.tmp 100) (Operand.tmp 102))), XS.mk (some 104) none (XI.k (XK.mov (Operand.tmp 103))), XS.mk (some 105) (some (104, true)) (XI.k (XK.mov (Operand.tmp 6))), XS.mk (some 106) (some (104, true)) (XI.k (XK.lenS (Operand.tmp 105))), XS.mk (some 107) (some (104, true)) (XI.k (XK.mov (Operand.tmp 4))), XS.mk (some 108) (some (104, true)) (XI.k (XK.lenS (Operand.tmp 107))), XS.mk (some 109) (some (104, true)) (XI.k (XK.arith BinOp.add IntKind.i64 (Operand.tmp 108) (Operand.const (Value.int IntKind.i64 1)))), XS.mk (some 110) (some (104, true)) (XI.k (XK.cmp BinOp.eql IntKind.i64 (Operand.tmp 106) (Operand.tmp 109))), XS.mk (some 111) none (XI.k (XK.pick (Operand.tmp 104) (Operand.tmp 110) (Operand.const (Value.bool false)))), XS.mk (some 2) none (XI.k (XK.mov (Operand.tmp 111)))]) (.ret)
def T4n7 : XC := .seq (.ops [XS.mk (some 96) none (XI.k (XK.mov (Operand.tmp 6))), XS.mk (some 97) none (XI.k (XK.buildS 5 1 1 [Value.int IntKind.u8 0] [(0, Operand.const (Value.int IntKind.u8 1))])), XS.mk (some 98) none (XI.k (XK.app 5 1 1 (Operand.tmp 96) (Operand.tmp 97))), XS.mk (some 6) none (XI.k (XK.mov (Operand.tmp 98)))]) (.ref 6)
def T4n8 : XC := .seq (.seq (.ops [XS.mk (some 82) none (XI.k (XK.mov (Operand.tmp 6))), XS.mk (some 83) none (XI.k (XK.lenS (Operand.tmp 82))), XS.mk (some 84) none (XI.k (XK.mov (Operand.const (Value.int IntKind.i64 0))))]) (.blk 0 (.loop (.ref 5)))) (.ref 7)
def T4n9 : XC := .seq (.seq (.ops [XS.mk (some 39) none (XI.k (XK.mov (Operand.tmp 7))), XS.mk (some 40) none (XI.k (XK.mov (Operand.tmp 5))), XS.mk (some 41) none (XI.k (XK.cmp BinOp.neq IntKind.i64 (Operand.tmp 39) (Operand.tmp 40))), XS.mk (some 42) none (XI.k (XK.mov (Operand.tmp 41))), XS.mk (some 43) (some (42, false)) (XI.k (XK.mov (Operand.tmp 9))), XS.mk (some 44) (some (42, false)) (XI.k (XK.mov (Operand.tmp 7))), XS.mk (some 45) (some (42, false)) (XI.k (XK.cmp BinOp.neq IntKind.i64 (Operand.tmp 43) (Operand.tmp 44))), XS.mk (some 46) none (XI.k (XK.pick (Operand.tmp 42) (Operand.const (Value.bool true)) (Operand.tmp 45))), XS.mk (some 47) none (XI.k (XK.mov (Operand.tmp 46))), XS.mk (some 48) (some (47, false)) (XI.k (XK.mov (Operand.tmp 6))), XS.mk (some 49) (some (47, false)) (XI.k (XK.b2s (Operand.tmp 48))), XS.mk (some 50) (some (47, false)) (XI.k (XK.mov (Operand.tmp 4))), XS.mk (some 51) (some (47, false)) (XI.k (XK.b2s (Operand.tmp 50))), XS.mk (some 52) (some (47, false)) (XI.k (XK.eqs BinOp.neq (Operand.tmp 49) (Operand.tmp 51))), XS.mk (some 53) none (XI.k (XK.pick (Operand.tmp 47) (Operand.const (Value.bool true)) (Operand.tmp 52))), XS.mk (some 54) none (XI.k (XK.mov (Operand.tmp 53))), XS.mk (some 55) (some (54, false)) (XI.k (XK.mov (Operand.tmp 3))), XS.mk (some 56) (some (54, false)) (XI.k (XK.mov (Operand.tmp 0))), XS.mk (some 57) (some (54, false)) (XI.k (XK.lenS (Operand.tmp 56))), XS.mk (some 58) (some (54, false)) (XI.k (XK.sub 5 (Operand.tmp 55) none (some (Operand.tmp 57)))), XS.mk (some 59) (some (54, false)) (XI.k (XK.mov (Operand.tmp 0))), XS.mk (some 60) (some (54, false)) (XI.call 7 [Operand.tmp 58, Operand.tmp 59]), XS.mk (some 61) (some (54, false)) (XI.k (XK.not (Operand.tmp 60))), XS.mk (some 62) none (XI.k (XK.pick (Operand.tmp 54) (Operand.const (Value.bool true)) (Operand.tmp 61))), XS.mk (some 63) none (XI.k (XK.mov (Operand.tmp 62))), XS.mk (some 64) (some (63, false)) (XI.k (XK.mov (Operand.tmp 3))), XS.mk (some 65) (some (63, false)) (XI.k (XK.mov (Operand.tmp 0))), XS.mk (some 66) (some (63, false)) (XI.k (XK.lenS (Operand.tmp 65))), XS.mk (some 67) (some (63, false)) (XI.k (XK.idx 5 (Operand.tmp 64) (Operand.tmp 66))), XS.mk (some 68) (some (63, false)) (XI.k (XK.fld 0 (Operand.tmp 67))), XS.mk (some 69) (some (63, false)) (XI.k (XK.load [CK.int IntKind.i64] false (Operand.tmp 68))), XS.mk (some 70) (some (63, false)) (XI.k (XK.cmp BinOp.neq IntKind.i64 (Operand.tmp 69) (Operand.const (Value.int IntKind.i64 7)))), XS.mk (some 71) none (XI.k (XK.pick (Operand.tmp 63) (Operand.const (Value.bool true)) (Operand.tmp 70))), XS.mk (some 72) none (XI.k (XK.mov (Operand.tmp 71))), XS.mk (some 73) (some (72, false)) (XI.k (XK.mov (Operand.tmp 3))), XS.mk (some 74) (some (72, false)) (XI.k (XK.mov (Operand.tmp 0))), XS.mk (some 75) (some (72, false)) (XI.k (XK.lenS (Operand.tmp 74))), XS.mk (some 76) (some (72, false)) (XI.k (XK.arith BinOp.add IntKind.i64 (Operand.tmp 75) (Operand.const (Value.int IntKind.i64 1)))), XS.mk (some 77) (some (72, false)) (XI.k (XK.idx 5 (Operand.tmp 73) (Operand.tmp 76))), XS.mk (some 78) (some (72, false)) (XI.k (XK.fld 0 (Operand.tmp 77))), XS.mk (some 79) (some (72, false)) (XI.k (XK.load [CK.int IntKind.i64] false (Operand.tmp 78))), XS.mk (some 80) (some (72, false)) (XI.k (XK.cmp BinOp.neq IntKind.i64 (Operand.tmp 79) (Operand.const (Value.int IntKind.i64 8)))), XS.mk (some 81) none (XI.k (XK.pick (Operand.tmp 72) (Operand.const (Value.bool true)) (Operand.tmp 80)))]) (.cond (Operand.tmp 81) (.ref 1) (.skip))) (.ref 8)
def T4n10 : XC := .seq (.ops [XS.mk (some 35) none (XI.k (XK.mov (Operand.tmp 0))), XS.mk (some 36) none (XI.call 9 [Operand.tmp 35]), XS.mk (some 34) none (XI.k (XK.mov (Operand.tmp 36))), XS.mk (some 37) none (XI.k (XK.ext (Operand.tmp 34) 0)), XS.mk (some 38) none (XI.k (XK.ext (Operand.tmp 34) 1)), XS.mk (some 8) none (XI.k (XK.mov (Operand.tmp 37))), XS.mk (some 9) none (XI.k (XK.mov (Operand.tmp 38)))]) (.ref 9)
def T4n11 : XC := .seq (.ops [XS.mk (some 27) none (XI.k (XK.mov (Operand.tmp 3))), XS.mk (some 28) none (XI.k (XK.mov (Operand.tmp 0))), XS.mk (some 29) none (XI.k (XK.lenS (Operand.tmp 28))), XS.mk (some 30) none (XI.k (XK.sub 5 (Operand.tmp 27) none (some (Operand.tmp 29)))), XS.mk (some 31) none (XI.call 9 [Operand.tmp 30]), XS.mk (some 26) none (XI.k (XK.mov (Operand.tmp 31))), XS.mk (some 32) none (XI.k (XK.ext (Operand.tmp 26) 0)), XS.mk (some 33) none (XI.k (XK.ext (Operand.tmp 26) 1)), XS.mk (some 6) none (XI.k (XK.mov (Operand.tmp 32))), XS.mk (some 7) none (XI.k (XK.mov (Operand.tmp 33)))]) (.ref 10)
def T4n12 : XC := .seq (.ops [XS.mk (some 22) none (XI.k (XK.mov (Operand.tmp 0))), XS.mk (some 23) none (XI.call 8 [Operand.tmp 22]), XS.mk (some 21) none (XI.k (XK.mov (Operand.tmp 23))), XS.mk (some 24) none (XI.k (XK.ext (Operand.tmp 21) 0)), XS.mk (some 25) none (XI.k (XK.ext (Operand.tmp 21) 1)), XS.mk (some 4) none (XI.k (XK.mov (Operand.tmp 24))), XS.mk (some 5) none (XI.k (XK.mov (Operand.tmp 25)))]) (.ref 11)
def T4n13 : XC := .seq (.ops [XS.mk (some 14) none (XI.k (XK.mov (Operand.tmp 3))), XS.mk (some 15) none (XI.k (XK.mov (Operand.tmp 0))), XS.mk (some 16) none (XI.k (XK.app 27 5 40 (Operand.tmp 14) (Operand.tmp 15))), XS.mk (some 17) none (XI.k (XK.build [Value.int IntKind.i64 0, Value.int IntKind.i64 0, Value.int IntKind.i64 0, Value.int IntKind.i64 0, Value.int IntKind.i64 0] [(0, 1, Operand.const (Value.int IntKind.i64 7))])), XS.mk (some 18) none (XI.k (XK.build [Value.int IntKind.i64 0, Value.int IntKind.i64 0, Value.int IntKind.i64 0, Value.int IntKind.i64 0, Value.int IntKind.i64 0] [(0, 1, Operand.const (Value.int IntKind.i64 8))])), XS.mk (some 19) none (XI.k (XK.buildS 27 2 5 [Value.int IntKind.i64 0, Value.int IntKind.i64 0, Value.int IntKind.i64 0, Value.int IntKind.i64 0, Value.int IntKind.i64 0] [(0, Operand.tmp 17), (1, Operand.tmp 18)])), XS.mk (some 20) none (XI.k (XK.app 27 5 40 (Operand.tmp 16) (Operand.tmp 19))), XS.mk (some 3) none (XI.k (XK.mov (Operand.tmp 20)))]) (.ref 12)
def T4n14 : XC := .seq (.ops [XS.mk (some 3) none (XI.k (XK.mov (Operand.const (Value.slice none 0 0))))]) (.ref 13)
def T4n15 : XC := .seq (.seq (.ops [XS.mk (some 11) none (XI.k (XK.mov (Operand.tmp 0))), XS.mk (some 12) none (XI.k (XK.lenS (Operand.tmp 11))), XS.mk (some 13) none (XI.k (XK.cmp BinOp.gtr IntKind.i64 (Operand.tmp 12) (Operand.const (Value.int IntKind.i64 3000))))]) (.cond (Operand.tmp 13) (.ref 0) (.skip))) (.ref 14)
def T4 : Nat → XC
  | 0 => T4n0
  | 1 => T4n1
  | 2 => T4n2
  | 3 => T4n3
  | 4 => T4n4
  | 5 => T4n5
  | 6 => T4n6
  | 7 => T4n7
  | 8 => T4n8
  | 9 => T4n9
  | 10 => T4n10
  | 11 => T4n11
  | 12 => T4n12
  | 13 => T4n13
  | 14 => T4n14
  | 15 => T4n15
  | _ => .skip
theorem t4n0 : T4 0 = T4n0 := rfl
theorem t4n1 : T4 1 = T4n1 := rfl
theorem t4n2 : T4 2 = T4n2 := rfl
theorem t4n3 : T4 3 = T4n3 := rfl
theorem t4n4 : T4 4 = T4n4 := rfl
theorem t4n5 : T4 5 = T4n5 := rfl
theorem t4n6 : T4 6 = T4n6 := rfl
theorem t4n7 : T4 7 = T4n7 := rfl
theorem t4n8 : T4 8 = T4n8 := rfl
theorem t4n9 : T4 9 = T4n9 := rfl
theorem t4n10 : T4 10 = T4n10 := rfl
theorem t4n11 : T4 11 = T4n11 := rfl
theorem t4n12 : T4 12 = T4n12 := rfl
theorem t4n13 : T4 13 = T4n13 := rfl
theorem t4n14 : T4 14 = T4n14 := rfl
theorem t4n15 : T4 15 = T4n15 := rfl
def X4 : XC := .seq (.ops [XS.mk (some 2) none (XI.k (XK.mov (Operand.const (Value.bool false))))]) (.ref 15)
abbrev K4 : List Nat := [0, 2, 3, 4, 5, 6, 7, 8, 9, 10, 13, 81, 83, 84, 85]
theorem n4 : Try.f4.ntmps = 112 := by kernel_rfl
theorem r4 : resT Try.f4.results.toList = some [2] := by kernel_rfl
theorem x4 : cmpF Try.prog Try.f4 = some (expand T4 17 X4) := by kernel_rfl
def T5n0 : XC := .ops [XS.mk (some 21) none (XI.k (XK.mov (Operand.tmp 6))), XS.mk (some 22) none (XI.k (XK.arith BinOp.add IntKind.i64 (Operand.tmp 21) (Operand.const (Value.int IntKind.i64 1)))), XS.mk (some 6) none (XI.k (XK.mov (Operand.tmp 22)))]
def T5n1 : XC := .seq (.blk 3 (.ops [XS.mk (some 23) none (XI.k (XK.mov (Operand.tmp 5))), XS.mk (some 24) none (XI.k (XK.arith BinOp.mul IntKind.i64 (Operand.tmp 23) (Operand.const (Value.int IntKind.i64 256)))), XS.mk (some 25) none (XI.k (XK.mov (Operand.tmp 0))), XS.mk (some 26) none (XI.k (XK.mov (Operand.tmp 4))), XS.mk (some 27) none (XI.k (XK.mov (Operand.tmp 6))), XS.mk (some 28) none (XI.k (XK.arith BinOp.add IntKind.i64 (Operand.tmp 26) (Operand.tmp 27))), XS.mk (some 29) none (XI.k (XK.idx 1 (Operand.tmp 25) (Operand.tmp 28))), XS.mk (some 30) none (XI.k (XK.load [CK.int IntKind.u8] false (Operand.tmp 29))), XS.mk (some 31) none (XI.k (XK.conv IntKind.i64 (Operand.tmp 30))), XS.mk (some 32) none (XI.k (XK.arith BinOp.add IntKind.i64 (Operand.tmp 24) (Operand.tmp 31))), XS.mk (some 5) none (XI.k (XK.mov (Operand.tmp 32)))])) (.ref 0)
def T5n2 : XC := .seq (.seq (.ops [XS.mk (some 19) none (XI.k (XK.mov (Operand.tmp 6))), XS.mk (some 20) none (XI.k (XK.cmp BinOp.lss IntKind.i64 (Operand.tmp 19) (Operand.const (Value.int IntKind.i64 8))))]) (.cond (Operand.tmp 20) (.skip) (.exit 2))) (.ref 1)
def T5n3 : XC := .ops [XS.mk (some 35) none (XI.k (XK.mov (Operand.tmp 5))), XS.mk (some 36) none (XI.k (XK.arith BinOp.sub IntKind.i64 (Operand.tmp 35) (Operand.const (Value.int IntKind.i64 4294967296)))), XS.mk (some 5) none (XI.k (XK.mov (Operand.tmp 36)))]
def T5n4 : XC := .ops [XS.mk (some 37) none (XI.k (XK.mov (Operand.tmp 3))), XS.mk (some 38) none (XI.k (XK.mov (Operand.tmp 0))), XS.mk (some 39) none (XI.k (XK.mov (Operand.tmp 4))), XS.mk (some 40) none (XI.k (XK.idx 1 (Operand.tmp 38) (Operand.tmp 39))), XS.mk (some 41) none (XI.k (XK.load [CK.int IntKind.u8] false (Operand.tmp 40))), XS.mk (some 42) none (XI.k (XK.conv IntKind.i64 (Operand.tmp 41))), XS.mk (some 43) none (XI.k (XK.mov (Operand.tmp 0))), XS.mk (some 44) none (XI.k (XK.mov (Operand.tmp 4))), XS.mk (some 45) none (XI.k (XK.arith BinOp.add IntKind.i64 (Operand.tmp 44) (Operand.const (Value.int IntKind.i64 1)))), XS.mk (some 46) none (XI.k (XK.idx 1 (Operand.tmp 43) (Operand.tmp 45))), XS.mk (some 47) none (XI.k (XK.load [CK.int IntKind.u8] false (Operand.tmp 46))), XS.mk (some 48) none (XI.k (XK.conv IntKind.i64 (Operand.tmp 47))), XS.mk (some 49) none (XI.k (XK.mov (Operand.tmp 0))), XS.mk (some 50) none (XI.k (XK.mov (Operand.tmp 4))), XS.mk (some 51) none (XI.k (XK.arith BinOp.add IntKind.i64 (Operand.tmp 50) (Operand.const (Value.int IntKind.i64 2)))), XS.mk (some 52) none (XI.k (XK.idx 1 (Operand.tmp 49) (Operand.tmp 51))), XS.mk (some 53) none (XI.k (XK.load [CK.int IntKind.u8] false (Operand.tmp 52))), XS.mk (some 54) none (XI.k (XK.conv IntKind.i64 (Operand.tmp 53))), XS.mk (some 55) none (XI.k (XK.mov (Operand.tmp 0))), XS.mk (some 56) none (XI.k (XK.mov (Operand.tmp 4))), XS.mk (some 57) none (XI.k (XK.arith BinOp.add IntKind.i64 (Operand.tmp 56) (Operand.const (Value.int IntKind.i64 3)))), XS.mk (some 58) none (XI.k (XK.idx 1 (Operand.tmp 55) (Operand.tmp 57))), XS.mk (some 59) none (XI.k (XK.load [CK.int IntKind.u8] false (Operand.tmp 58))), XS.mk (some 60) none (XI.k (XK.conv IntKind.i64 (Operand.tmp 59))), XS.mk (some 61) none (XI.k (XK.mov (Operand.tmp 5))), XS.mk (some 62) none (XI.k (XK.build [Value.int IntKind.i64 0, Value.int IntKind.i64 0, Value.int IntKind.i64 0, Value.int IntKind.i64 0, Value.int IntKind.i64 0] [(0, 1, Operand.tmp 42), (1, 1, Operand.tmp 48), (2, 1, Operand.tmp 54), (3, 1, Operand.tmp 60), (4, 1, Operand.tmp 61)])), XS.mk (some 63) none (XI.k (XK.buildS 27 1 5 [Value.int IntKind.i64 0, Value.int IntKind.i64 0, Value.int IntKind.i64 0, Value.int IntKind.i64 0, Value.int IntKind.i64 0] [(0, Operand.tmp 62)])), XS.mk (some 64) none (XI.k (XK.app 27 5 40 (Operand.tmp 37) (Operand.tmp 63))), XS.mk (some 3) none (XI.k (XK.mov (Operand.tmp 64)))]
def T5n5 : XC := .seq (.seq (.ops [XS.mk (some 33) none (XI.k (XK.mov (Operand.tmp 5))), XS.mk (some 34) none (XI.k (XK.cmp BinOp.geq IntKind.i64 (Operand.tmp 33) (Operand.const (Value.int IntKind.i64 2147483648))))]) (.cond (Operand.tmp 34) (.ref 3) (.skip))) (.ref 4)
def T5n6 : XC := .seq (.seq (.ops [XS.mk (some 6) none (XI.k (XK.mov (Operand.const (Value.int IntKind.i64 4))))]) (.blk 2 (.loop (.ref 2)))) (.ref 5)
def T5n7 : XC := .ops [XS.mk (some 17) none (XI.k (XK.mov (Operand.tmp 4))), XS.mk (some 18) none (XI.k (XK.arith BinOp.add IntKind.i64 (Operand.tmp 17) (Operand.const (Value.int IntKind.i64 8)))), XS.mk (some 4) none (XI.k (XK.mov (Operand.tmp 18)))]
def T5n8 : XC := .seq (.blk 1 (.seq (.ops [XS.mk (some 5) none (XI.k (XK.mov (Operand.const (Value.int IntKind.i64 0))))]) (.ref 6))) (.ref 7)
def T5n9 : XC := .seq (.seq (.ops [XS.mk (some 7) none (XI.k (XK.mov (Operand.tmp 4))), XS.mk (some 8) none (XI.k (XK.arith BinOp.add IntKind.i64 (Operand.tmp 7) (Operand.const (Value.int IntKind.i64 8)))), XS.mk (some 9) none (XI.k (XK.mov (Operand.tmp 0))), XS.mk (some 10) none (XI.k (XK.lenS (Operand.tmp 9))), XS.mk (some 11) none (XI.k (XK.cmp BinOp.leq IntKind.i64 (Operand.tmp 8) (Operand.tmp 10))), XS.mk (some 12) none (XI.k (XK.mov (Operand.tmp 11))), XS.mk (some 13) (some (12, true)) (XI.k (XK.mov (Operand.tmp 3))), XS.mk (some 14) (some (12, true)) (XI.k (XK.lenS (Operand.tmp 13))), XS.mk (some 15) (some (12, true)) (XI.k (XK.cmp BinOp.lss IntKind.i64 (Operand.tmp 14) (Operand.const (Value.int IntKind.i64 1024)))), XS.mk (some 16) none (XI.k (XK.pick (Operand.tmp 12) (Operand.tmp 15) (Operand.const (Value.bool false))))]) (.cond (Operand.tmp 16) (.skip) (.exit 0))) (.ref 8)
def T5n10 : XC := .seq (.ops [XS.mk (some 65) none (XI.k (XK.mov (Operand.tmp 3))), XS.mk (some 2) none (XI.k (XK.mov (Operand.tmp 65)))]) (.ret)
def T5n11 : XC := .seq (.seq (.ops [XS.mk (some 4) none (XI.k (XK.mov (Operand.const (Value.int IntKind.i64 0))))]) (.blk 0 (.loop (.ref 9)))) (.ref 10)
def T5n12 : XC := .seq (.ops [XS.mk (some 3) none (XI.k (XK.mov (Operand.const (Value.slice none 0 0))))]) (.ref 11)
def T5 : Nat → XC
  | 0 => T5n0
  | 1 => T5n1
  | 2 => T5n2
  | 3 => T5n3
  | 4 => T5n4
  | 5 => T5n5
  | 6 => T5n6
  | 7 => T5n7
  | 8 => T5n8
  | 9 => T5n9
  | 10 => T5n10
  | 11 => T5n11
  | 12 => T5n12
  | _ => .skip
theorem t5n0 : T5 0 = T5n0 := rfl
theorem t5n1 : T5 1 = T5n1 := rfl
theorem t5n2 : T5 2 = T5n2 := rfl
theorem t5n3 : T5 3 = T5n3 := rfl
theorem t5n4 : T5 4 = T5n4 := rfl
theorem t5n5 : T5 5 = T5n5 := rfl
theorem t5n6 : T5 6 = T5n6 := rfl
theorem t5n7 : T5 7 = T5n7 := rfl
theorem t5n8 : T5 8 = T5n8 := rfl
theorem t5n9 : T5 9 = T5n9 := rfl
theorem t5n10 : T5 10 = T5n10 := rfl
theorem t5n11 : T5 11 = T5n11 := rfl
theorem t5n12 : T5 12 = T5n12 := rfl
def X5 : XC := .seq (.ops [XS.mk (some 2) none (XI.k (XK.mov (Operand.const (Value.slice none 0 0))))]) (.ref 12)
abbrev K5 : List Nat := [0, 2, 3, 4, 5, 6, 16, 20, 34]
theorem n5 : Try.f5.ntmps = 66 := by kernel_rfl
theorem r5 : resT Try.f5.results.toList = some [2] := by kernel_rfl
theorem x5 : cmpF Try.prog Try.f5 = some (expand T5 14 X5) := by kernel_rfl
def T6n0 : XC := .ops [XS.mk (some 34) none (XI.k (XK.load [CK.slc] false (Operand.tmp 3))), XS.mk (some 35) none (XI.k (XK.mov (Operand.tmp 4))), XS.mk (some 36) none (XI.k (XK.idx 1 (Operand.tmp 35) (Operand.const (Value.int IntKind.i64 0)))), XS.mk (some 37) none (XI.k (XK.load [CK.int IntKind.u8] false (Operand.tmp 36))), XS.mk (some 38) none (XI.k (XK.conv IntKind.i64 (Operand.tmp 37))), XS.mk (some 39) none (XI.k (XK.mov (Operand.tmp 4))), XS.mk (some 40) none (XI.k (XK.idx 1 (Operand.tmp 39) (Operand.const (Value.int IntKind.i64 1)))), XS.mk (some 41) none (XI.k (XK.load [CK.int IntKind.u8] false (Operand.tmp 40))), XS.mk (some 42) none (XI.k (XK.conv IntKind.i64 (Operand.tmp 41))), XS.mk (some 43) none (XI.k (XK.mov (Operand.tmp 4))), XS.mk (some 44) none (XI.k (XK.idx 1 (Operand.tmp 43) (Operand.const (Value.int IntKind.i64 2)))), XS.mk (some 45) none (XI.k (XK.load [CK.int IntKind.u8] false (Operand.tmp 44))), XS.mk (some 46) none (XI.k (XK.conv IntKind.i64 (Operand.tmp 45))), XS.mk (some 47) none (XI.k (XK.mov (Operand.tmp 4))), XS.mk (some 48) none (XI.k (XK.idx 1 (Operand.tmp 47) (Operand.const (Value.int IntKind.i64 3)))), XS.mk (some 49) none (XI.k (XK.load [CK.int IntKind.u8] false (Operand.tmp 48))), XS.mk (some 50) none (XI.k (XK.conv IntKind.i64 (Operand.tmp 49))), XS.mk (some 51) none (XI.k (XK.mov (Operand.tmp 5))), XS.mk (some 52) none (XI.k (XK.conv IntKind.i32 (Operand.tmp 51))), XS.mk (some 53) none (XI.k (XK.conv IntKind.i64 (Operand.tmp 52))), XS.mk (some 54) none (XI.k (XK.build [Value.int IntKind.i64 0, Value.int IntKind.i64 0, Value.int IntKind.i64 0, Value.int IntKind.i64 0, Value.int IntKind.i64 0] [(0, 1, Operand.tmp 38), (1, 1, Operand.tmp 42), (2, 1, Operand.tmp 46), (3, 1, Operand.tmp 50), (4, 1, Operand.tmp 53)])), XS.mk (some 55) none (XI.k (XK.buildS 27 1 5 [Value.int IntKind.i64 0, Value.int IntKind.i64 0, Value.int IntKind.i64 0, Value.int IntKind.i64 0, Value.int IntKind.i64 0] [(0, Operand.tmp 54)])), XS.mk (some 56) none (XI.k (XK.app 27 5 40 (Operand.tmp 34) (Operand.tmp 55))), XS.mk none none (XI.k (XK.store 1 (Operand.tmp 3) (Operand.tmp 56)))]
def T6n1 : XC := .seq (.ops [XS.mk (some 12) none (XI.k (XK.mov (Operand.tmp 4))), XS.mk (some 13) none (XI.k (XK.idx 1 (Operand.tmp 12) (Operand.const (Value.int IntKind.i64 4)))), XS.mk (some 14) none (XI.k (XK.load [CK.int IntKind.u8] false (Operand.tmp 13))), XS.mk (some 15) none (XI.k (XK.conv IntKind.u32 (Operand.tmp 14))), XS.mk (some 16) none (XI.k (XK.shift BinOp.shl IntKind.u32 (Operand.tmp 15) (Operand.const (Value.int IntKind.u64 24)))), XS.mk (some 17) none (XI.k (XK.mov (Operand.tmp 4))), XS.mk (some 18) none (XI.k (XK.idx 1 (Operand.tmp 17) (Operand.const (Value.int IntKind.i64 5)))), XS.mk (some 19) none (XI.k (XK.load [CK.int IntKind.u8] false (Operand.tmp 18))), XS.mk (some 20) none (XI.k (XK.conv IntKind.u32 (Operand.tmp 19))), XS.mk (some 21) none (XI.k (XK.shift BinOp.shl IntKind.u32 (Operand.tmp 20) (Operand.const (Value.int IntKind.u64 16)))), XS.mk (some 22) none (XI.k (XK.bits BinOp.or IntKind.u32 (Operand.tmp 16) (Operand.tmp 21))), XS.mk (some 23) none (XI.k (XK.mov (Operand.tmp 4))), XS.mk (some 24) none (XI.k (XK.idx 1 (Operand.tmp 23) (Operand.const (Value.int IntKind.i64 6)))), XS.mk (some 25) none (XI.k (XK.load [CK.int IntKind.u8] false (Operand.tmp 24))), XS.mk (some 26) none (XI.k (XK.conv IntKind.u32 (Operand.tmp 25))), XS.mk (some 27) none (XI.k (XK.shift BinOp.shl IntKind.u32 (Operand.tmp 26) (Operand.const (Value.int IntKind.u64 8)))), XS.mk (some 28) none (XI.k (XK.bits BinOp.or IntKind.u32 (Operand.tmp 22) (Operand.tmp 27))), XS.mk (some 29) none (XI.k (XK.mov (Operand.tmp 4))), XS.mk (some 30) none (XI.k (XK.idx 1 (Operand.tmp 29) (Operand.const (Value.int IntKind.i64 7)))), XS.mk (some 31) none (XI.k (XK.load [CK.int IntKind.u8] false (Operand.tmp 30))), XS.mk (some 32) none (XI.k (XK.conv IntKind.u32 (Operand.tmp 31))), XS.mk (some 33) none (XI.k (XK.bits BinOp.or IntKind.u32 (Operand.tmp 28) (Operand.tmp 32))), XS.mk (some 5) none (XI.k (XK.mov (Operand.tmp 33)))]) (.ref 0)
def T6n2 : XC := .blk 1 (.seq (.seq (.ops [XS.mk (some 9) none (XI.k (XK.load [CK.slc] false (Operand.tmp 3))), XS.mk (some 10) none (XI.k (XK.lenS (Operand.tmp 9))), XS.mk (some 11) none (XI.k (XK.cmp BinOp.eql IntKind.i64 (Operand.tmp 10) (Operand.const (Value.int IntKind.i64 1024))))]) (.cond (Operand.tmp 11) (.exit 0) (.skip))) (.ref 1))
def T6n3 : XC := .blk 0 (.rng (Operand.tmp 7) [8] (.ops [XS.mk (some 4) none (XI.k (XK.mov (Operand.tmp 8)))]) (.ref 2))
def T6n4 : XC := .seq (.ops [XS.mk (some 57) none (XI.k (XK.load [CK.slc] false (Operand.tmp 3))), XS.mk (some 2) none (XI.k (XK.mov (Operand.tmp 57)))]) (.ret)
def T6n5 : XC := .seq (.seq (.ops [XS.mk (some 6) none (XI.k (XK.mov (Operand.tmp 0))), XS.mk (some 7) none (XI.call 10 [Operand.tmp 6])]) (.ref 3)) (.ref 4)
def T6n6 : XC := .seq (.ops [XS.mk (some 3) none (XI.k (XK.alloc 23 [Value.slice none 0 0]))]) (.ref 5)
def T6 : Nat → XC
  | 0 => T6n0
  | 1 => T6n1
  | 2 => T6n2
  | 3 => T6n3
  | 4 => T6n4
  | 5 => T6n5
  | 6 => T6n6
  | _ => .skip
theorem t6n0 : T6 0 = T6n0 := rfl
theorem t6n1 : T6 1 = T6n1 := rfl
theorem t6n2 : T6 2 = T6n2 := rfl
theorem t6n3 : T6 3 = T6n3 := rfl
theorem t6n4 : T6 4 = T6n4 := rfl
theorem t6n5 : T6 5 = T6n5 := rfl
theorem t6n6 : T6 6 = T6n6 := rfl
def X6 : XC := .seq (.ops [XS.mk (some 2) none (XI.k (XK.mov (Operand.const (Value.slice none 0 0))))]) (.ref 6)
abbrev K6 : List Nat := [0, 2, 3, 4, 5, 7, 8, 11]
theorem n6 : Try.f6.ntmps = 58 := by kernel_rfl
theorem r6 : resT Try.f6.results.toList = some [2] := by kernel_rfl
theorem x6 : cmpF Try.prog Try.f6 = some (expand T6 8 X6) := by kernel_rfl
def T7n0 : XC := .seq (.ops [XS.mk (some 4) none (XI.k (XK.mov (Operand.const (Value.bool false))))]) (.ret)
def T7n1 : XC := .seq (.ops [XS.mk (some 4) none (XI.k (XK.mov (Operand.const (Value.bool false))))]) (.ret)
def T7n2 : XC := .ops [XS.mk (some 15) none (XI.k (XK.mov (Operand.tmp 5))), XS.mk (some 16) none (XI.k (XK.arith BinOp.add IntKind.i64 (Operand.tmp 15) (Operand.const (Value.int IntKind.i64 1)))), XS.mk (some 5) none (XI.k (XK.mov (Operand.tmp 16)))]
def T7n3 : XC := .seq (.blk 1 (.seq (.ops [XS.mk (some 17) none (XI.k (XK.mov (Operand.tmp 0))), XS.mk (some 18) none (XI.k (XK.mov (Operand.tmp 5))), XS.mk (some 19) none (XI.k (XK.idx 5 (Operand.tmp 17) (Operand.tmp 18))), XS.mk (some 20) none (XI.k (XK.load [CK.int IntKind.i64, CK.int IntKind.i64, CK.int IntKind.i64, CK.int IntKind.i64, CK.int IntKind.i64] true (Operand.tmp 19))), XS.mk (some 21) none (XI.k (XK.mov (Operand.tmp 1))), XS.mk (some 22) none (XI.k (XK.mov (Operand.tmp 5))), XS.mk (some 23) none (XI.k (XK.idx 5 (Operand.tmp 21) (Operand.tmp 22))), XS.mk (some 24) none (XI.k (XK.load [CK.int IntKind.i64, CK.int IntKind.i64, CK.int IntKind.i64, CK.int IntKind.i64, CK.int IntKind.i64] true (Operand.tmp 23))), XS.mk (some 25) none (XI.k (XK.eqa true [CK.int IntKind.i64, CK.int IntKind.i64, CK.int IntKind.i64, CK.int IntKind.i64, CK.int IntKind.i64] (Operand.tmp 20) (Operand.tmp 24)))]) (.cond (Operand.tmp 25) (.ref 1) (.skip)))) (.ref 2)
def T7n4 : XC := .seq (.seq (.ops [XS.mk (some 11) none (XI.k (XK.mov (Operand.tmp 5))), XS.mk (some 12) none (XI.k (XK.mov (Operand.tmp 0))), XS.mk (some 13) none (XI.k (XK.lenS (Operand.tmp 12))), XS.mk (some 14) none (XI.k (XK.cmp BinOp.lss IntKind.i64 (Operand.tmp 11) (Operand.tmp 13)))]) (.cond (Operand.tmp 14) (.skip) (.exit 0))) (.ref 3)
def T7n5 : XC := .seq (.ops [XS.mk (some 4) none (XI.k (XK.mov (Operand.const (Value.bool true))))]) (.ret)
def T7n6 : XC := .seq (.seq (.ops [XS.mk (some 5) none (XI.k (XK.mov (Operand.const (Value.int IntKind.i64 0))))]) (.blk 0 (.loop (.ref 4)))) (.ref 5)
def T7n7 : XC := .seq (.seq (.ops [XS.mk (some 6) none (XI.k (XK.mov (Operand.tmp 0))), XS.mk (some 7) none (XI.k (XK.lenS (Operand.tmp 6))), XS.mk (some 8) none (XI.k (XK.mov (Operand.tmp 1))), XS.mk (some 9) none (XI.k (XK.lenS (Operand.tmp 8))), XS.mk (some 10) none (XI.k (XK.cmp BinOp.neq IntKind.i64 (Operand.tmp 7) (Operand.tmp 9)))]) (.cond (Operand.tmp 10) (.ref 0) (.skip))) (.ref 6)
def T7 : Nat → XC
  | 0 => T7n0
  | 1 => T7n1
  | 2 => T7n2
  | 3 => T7n3
  | 4 => T7n4
  | 5 => T7n5
  | 6 => T7n6
  | 7 => T7n7
  | _ => .skip
theorem t7n0 : T7 0 = T7n0 := rfl
theorem t7n1 : T7 1 = T7n1 := rfl
theorem t7n2 : T7 2 = T7n2 := rfl
theorem t7n3 : T7 3 = T7n3 := rfl
theorem t7n4 : T7 4 = T7n4 := rfl
theorem t7n5 : T7 5 = T7n5 := rfl
theorem t7n6 : T7 6 = T7n6 := rfl
theorem t7n7 : T7 7 = T7n7 := rfl
def X7 : XC := .seq (.ops [XS.mk (some 4) none (XI.k (XK.mov (Operand.const (Value.bool false))))]) (.ref 7)
abbrev K7 : List Nat := [0, 1, 4, 5, 10, 14, 25]
theorem n7 : Try.f7.ntmps = 26 := by kernel_rfl
theorem r7 : resT Try.f7.results.toList = some [4] := by kernel_rfl
theorem x7 : cmpF Try.prog Try.f7 = some (expand T7 9 X7) := by kernel_rfl
def T8n0 : XC := .seq (.ops [XS.mk (some 2) none (XI.k (XK.mov (Operand.const (Value.slice none 0 0)))), XS.mk (some 3) none (XI.k (XK.mov (Operand.const (Value.int IntKind.i64 2))))]) (.ret)
def T8n1 : XC := .seq (.ops [XS.mk (some 2) none (XI.k (XK.mov (Operand.const (Value.slice none 0 0)))), XS.mk (some 3) none (XI.k (XK.mov (Operand.const (Value.int IntKind.i64 2))))]) (.ret)
def T8n2 : XC := .ops [XS.mk (some 48) none (XI.k (XK.mov (Operand.tmp 4))), XS.mk (some 49) none (XI.k (XK.mov (Operand.tmp 7))), XS.mk (some 50) none (XI.k (XK.mov (Operand.tmp 8))), XS.mk (some 51) none (XI.k (XK.idx 1 (Operand.tmp 49) (Operand.tmp 50))), XS.mk (some 52) none (XI.k (XK.load [CK.int IntKind.i64] false (Operand.tmp 51))), XS.mk (some 53) none (XI.k (XK.conv IntKind.u8 (Operand.tmp 52))), XS.mk (some 54) none (XI.k (XK.buildS 5 1 1 [Value.int IntKind.u8 0] [(0, Operand.tmp 53)])), XS.mk (some 55) none (XI.k (XK.app 5 1 1 (Operand.tmp 48) (Operand.tmp 54))), XS.mk (some 4) none (XI.k (XK.mov (Operand.tmp 55)))]
def T8n3 : XC := .ops [XS.mk (some 34) none (XI.k (XK.mov (Operand.tmp 8))), XS.mk (some 35) none (XI.k (XK.arith BinOp.add IntKind.i64 (Operand.tmp 34) (Operand.const (Value.int IntKind.i64 1)))), XS.mk (some 8) none (XI.k (XK.mov (Operand.tmp 35)))]
def T8n4 : XC := .seq (.blk 3 (.seq (.seq (.ops [XS.mk (some 36) none (XI.k (XK.mov (Operand.tmp 7))), XS.mk (some 37) none (XI.k (XK.mov (Operand.tmp 8))), XS.mk (some 38) none (XI.k (XK.idx 1 (Operand.tmp 36) (Operand.tmp 37))), XS.mk (some 39) none (XI.k (XK.load [CK.int IntKind.i64] false (Operand.tmp 38))), XS.mk (some 40) none (XI.k (XK.cmp BinOp.lss IntKind.i64 (Operand.tmp 39) (Operand.const (Value.int IntKind.i64 0)))), XS.mk (some 41) none (XI.k (XK.mov (Operand.tmp 40))), XS.mk (some 42) (some (41, false)) (XI.k (XK.mov (Operand.tmp 7))), XS.mk (some 43) (some (41, false)) (XI.k (XK.mov (Operand.tmp 8))), XS.mk (some 44) (some (41, false)) (XI.k (XK.idx 1 (Operand.tmp 42) (Operand.tmp 43))), XS.mk (some 45) (some (41, false)) (XI.k (XK.load [CK.int IntKind.i64] false (Operand.tmp 44))), XS.mk (some 46) (some (41, false)) (XI.k (XK.cmp BinOp.gtr IntKind.i64 (Operand.tmp 45) (Operand.const (Value.int IntKind.i64 255)))), XS.mk (some 47) none (XI.k (XK.pick (Operand.tmp 41) (Operand.const (Value.bool true)) (Operand.tmp 46)))]) (.cond (Operand.tmp 47) (.ref 1) (.skip))) (.ref 2))) (.ref 3)
def T8n5 : XC := .seq (.seq (.ops [XS.mk (some 32) none (XI.k (XK.mov (Operand.tmp 8))), XS.mk (some 33) none (XI.k (XK.cmp BinOp.lss IntKind.i64 (Operand.tmp 32) (Operand.const (Value.int IntKind.i64 4))))]) (.cond (Operand.tmp 33) (.skip) (.exit 2))) (.ref 4)
def T8n6 : XC := .seq (.ops [XS.mk (some 2) none (XI.k (XK.mov (Operand.const (Value.slice none 0 0)))), XS.mk (some 3) none (XI.k (XK.mov (Operand.const (Value.int IntKind.i64 2))))]) (.ret)
def T8n7 : XC := .ops [XS.mk (some 68) none (XI.k (XK.mov (Operand.tmp 9))), XS.mk (some 69) none (XI.k (XK.arith BinOp.add IntKind.i64 (Operand.tmp 68) (Operand.const (Value.int IntKind.i64 4294967296)))), XS.mk (some 9) none (XI.k (XK.mov (Operand.tmp 69)))]
def T8n8 : XC := .ops [XS.mk (some 70) none (XI.k (XK.mov (Operand.tmp 4))), XS.mk (some 71) none (XI.k (XK.mov (Operand.tmp 9))), XS.mk (some 72) none (XI.k (XK.div BinOp.quo IntKind.i64 (Operand.tmp 71) (Operand.const (Value.int IntKind.i64 16777216)))), XS.mk (some 73) none (XI.k (XK.conv IntKind.u8 (Operand.tmp 72))), XS.mk (some 74) none (XI.k (XK.mov (Operand.tmp 9))), XS.mk (some 75) none (XI.k (XK.div BinOp.quo IntKind.i64 (Operand.tmp 74) (Operand.const (Value.int IntKind.i64 65536)))), XS.mk (some 76) none (XI.k (XK.div BinOp.rem IntKind.i64 (Operand.tmp 75) (Operand.const (Value.int IntKind.i64 256)))), XS.mk (some 77) none (XI.k (XK.conv IntKind.u8 (Operand.tmp 76))), XS.mk (some 78) none (XI.k (XK.mov (Operand.tmp 9))), XS.mk (some 79) none (XI.k (XK.div BinOp.quo IntKind.i64 (Operand.tmp 78) (Operand.const (Value.int IntKind.i64 256)))), XS.mk (some 80) none (XI.k (XK.div BinOp.rem IntKind.i64 (Operand.tmp 79) (Operand.const (Value.int IntKind.i64 256)))), XS.mk (some 81) none (XI.k (XK.conv IntKind.u8 (Operand.tmp 80))), XS.mk (some 82) none (XI.k (XK.mov (Operand.tmp 9))), XS.mk (some 83) none (XI.k (XK.div BinOp.rem IntKind.i64 (Operand.tmp 82) (Operand.const (Value.int IntKind.i64 256)))), XS.mk (some 84) none (XI.k (XK.conv IntKind.u8 (Operand.tmp 83))), XS.mk (some 85) none (XI.k (XK.buildS 5 4 1 [Value.int IntKind.u8 0] [(0, Operand.tmp 73), (1, Operand.tmp 77), (2, Operand.tmp 81), (3, Operand.tmp 84)])), XS.mk (some 86) none (XI.k (XK.app 5 1 1 (Operand.tmp 70) (Operand.tmp 85))), XS.mk (some 4) none (XI.k (XK.mov (Operand.tmp 86)))]
def T8n9 : XC := .seq (.seq (.ops [XS.mk (some 66) none (XI.k (XK.mov (Operand.tmp 9))), XS.mk (some 67) none (XI.k (XK.cmp BinOp.lss IntKind.i64 (Operand.tmp 66) (Operand.const (Value.int IntKind.i64 0))))]) (.cond (Operand.tmp 67) (.ref 7) (.skip))) (.ref 8)
def T8n10 : XC := .seq (.ops [XS.mk (some 64) none (XI.k (XK.fld 4 (Operand.tmp 6))), XS.mk (some 65) none (XI.k (XK.load [CK.int IntKind.i64] false (Operand.tmp 64))), XS.mk (some 9) none (XI.k (XK.mov (Operand.tmp 65)))]) (.ref 9)
def T8n11 : XC := .seq (.seq (.ops [XS.mk (some 56) none (XI.k (XK.fld 4 (Operand.tmp 6))), XS.mk (some 57) none (XI.k (XK.load [CK.int IntKind.i64] false (Operand.tmp 56))), XS.mk (some 58) none (XI.k (XK.cmp BinOp.lss IntKind.i64 (Operand.tmp 57) (Operand.const (Value.int IntKind.i64 (-2147483648))))), XS.mk (some 59) none (XI.k (XK.mov (Operand.tmp 58))), XS.mk (some 60) (some (59, false)) (XI.k (XK.fld 4 (Operand.tmp 6))), XS.mk (some 61) (some (59, false)) (XI.k (XK.load [CK.int IntKind.i64] false (Operand.tmp 60))), XS.mk (some 62) (some (59, false)) (XI.k (XK.cmp BinOp.gtr IntKind.i64 (Operand.tmp 61) (Operand.const (Value.int IntKind.i64 2147483647)))), XS.mk (some 63) none (XI.k (XK.pick (Operand.tmp 59) (Operand.const (Value.bool true)) (Operand.tmp 62)))]) (.cond (Operand.tmp 63) (.ref 6) (.skip))) (.ref 10)
def T8n12 : XC := .seq (.seq (.ops [XS.mk (some 8) none (XI.k (XK.mov (Operand.const (Value.int IntKind.i64 0))))]) (.blk 2 (.loop (.ref 5)))) (.ref 11)
def T8n13 : XC := .seq (.ops [XS.mk (some 23) none (XI.k (XK.fld 0 (Operand.tmp 6))), XS.mk (some 24) none (XI.k (XK.load [CK.int IntKind.i64] false (Operand.tmp 23))), XS.mk (some 25) none (XI.k (XK.fld 1 (Operand.tmp 6))), XS.mk (some 26) none (XI.k (XK.load [CK.int IntKind.i64] false (Operand.tmp 25))), XS.mk (some 27) none (XI.k (XK.fld 2 (Operand.tmp 6))), XS.mk (some 28) none (XI.k (XK.load [CK.int IntKind.i64] false (Operand.tmp 27))), XS.mk (some 29) none (XI.k (XK.fld 3 (Operand.tmp 6))), XS.mk (some 30) none (XI.k (XK.load [CK.int IntKind.i64] false (Operand.tmp 29))), XS.mk (some 31) none (XI.k (XK.buildS 3 4 1 [Value.int IntKind.i64 0] [(0, Operand.tmp 24), (1, Operand.tmp 26), (2, Operand.tmp 28), (3, Operand.tmp 30)])), XS.mk (some 7) none (XI.k (XK.mov (Operand.tmp 31)))]) (.ref 12)
def T8n14 : XC := .ops [XS.mk (some 17) none (XI.k (XK.mov (Operand.tmp 5))), XS.mk (some 18) none (XI.k (XK.arith BinOp.add IntKind.i64 (Operand.tmp 17) (Operand.const (Value.int IntKind.i64 1)))), XS.mk (some 5) none (XI.k (XK.mov (Operand.tmp 18)))]
def T8n15 : XC := .seq (.blk 1 (.seq (.ops [XS.mk (some 19) none (XI.k (XK.mov (Operand.tmp 0))), XS.mk (some 20) none (XI.k (XK.mov (Operand.tmp 5))), XS.mk (some 21) none (XI.k (XK.idx 5 (Operand.tmp 19) (Operand.tmp 20))), XS.mk (some 22) none (XI.k (XK.load [CK.int IntKind.i64, CK.int IntKind.i64, CK.int IntKind.i64, CK.int IntKind.i64, CK.int IntKind.i64] true (Operand.tmp 21))), XS.mk (some 6) none (XI.k (XK.alloc 27 [Value.int IntKind.i64 0, Value.int IntKind.i64 0, Value.int IntKind.i64 0, Value.int IntKind.i64 0, Value.int IntKind.i64 0])), XS.mk none none (XI.k (XK.store 5 (Operand.tmp 6) (Operand.tmp 22)))]) (.ref 13))) (.ref 14)
def T8n16 : XC := .seq (.seq (.ops [XS.mk (some 13) none (XI.k (XK.mov (Operand.tmp 5))), XS.mk (some 14) none (XI.k (XK.mov (Operand.tmp 0))), XS.mk (some 15) none (XI.k (XK.lenS (Operand.tmp 14))), XS.mk (some 16) none (XI.k (XK.cmp BinOp.lss IntKind.i64 (Operand.tmp 13) (Operand.tmp 15)))]) (.cond (Operand.tmp 16) (.skip) (.exit 0))) (.ref 15)
def T8n17 : XC := .seq (.ops [XS.mk (some 87) none (XI.k (XK.mov (Operand.tmp 4))), XS.mk (some 2) none (XI.k (XK.mov (Operand.tmp 87))), XS.mk (some 3) none (XI.k (XK.mov (Operand.const (Value.int IntKind.i64 0))))]) (.ret)
def T8n18 : XC := .seq (.seq (.ops [XS.mk (some 5) none (XI.k (XK.mov (Operand.const (Value.int IntKind.i64 0))))]) (.blk 0 (.loop (.ref 16)))) (.ref 17)
def T8n19 : XC := .seq (.ops [XS.mk (some 4) none (XI.k (XK.mov (Operand.const (Value.slice none 0 0))))]) (.ref 18)
def T8n20 : XC := .seq (.seq (.ops [XS.mk (some 10) none (XI.k (XK.mov (Operand.tmp 0))), XS.mk (some 11) none (XI.k (XK.lenS (Operand.tmp 10))), XS.mk (some 12) none (XI.k (XK.cmp BinOp.gtr IntKind.i64 (Operand.tmp 11) (Operand.const (Value.int IntKind.i64 1024))))]) (.cond (Operand.tmp 12) (.ref 0) (.skip))) (.ref 19)
def T8 : Nat → XC
  | 0 => T8n0
  | 1 => T8n1
  | 2 => T8n2
  | 3 => T8n3
  | 4 => T8n4
  | 5 => T8n5
  | 6 => T8n6
  | 7 => T8n7
  | 8 => T8n8
  | 9 => T8n9
  | 10 => T8n10
  | 11 => T8n11
  | 12 => T8n12
  | 13 => T8n13
  | 14 => T8n14
  | 15 => T8n15
  | 16 => T8n16
  | 17 => T8n17
  | 18 => T8n18
  | 19 => T8n19
  | 20 => T8n20
  | _ => .skip
theorem t8n0 : T8 0 = T8n0 := rfl
theorem t8n1 : T8 1 = T8n1 := rfl
theorem t8n2 : T8 2 = T8n2 := rfl
theorem t8n3 : T8 3 = T8n3 := rfl
theorem t8n4 : T8 4 = T8n4 := rfl
theorem t8n5 : T8 5 = T8n5 := rfl
theorem t8n6 : T8 6 = T8n6 := rfl
theorem t8n7 : T8 7 = T8n7 := rfl
theorem t8n8 : T8 8 = T8n8 := rfl
theorem t8n9 : T8 9 = T8n9 := rfl
theorem t8n10 : T8 10 = T8n10 := rfl
theorem t8n11 : T8 11 = T8n11 := rfl
theorem t8n12 : T8 12 = T8n12 := rfl
theorem t8n13 : T8 13 = T8n13 := rfl
theorem t8n14 : T8 14 = T8n14 := rfl
theorem t8n15 : T8 15 = T8n15 := rfl
theorem t8n16 : T8 16 = T8n16 := rfl
theorem t8n17 : T8 17 = T8n17 := rfl
theorem t8n18 : T8 18 = T8n18 := rfl
theorem t8n19 : T8 19 = T8n19 := rfl
theorem t8n20 : T8 20 = T8n20 := rfl
def X8 : XC := .seq (.ops [XS.mk (some 2) none (XI.k (XK.mov (Operand.const (Value.slice none 0 0)))), XS.mk (some 3) none (XI.k (XK.mov (Operand.const (Value.int IntKind.i64 0))))]) (.ref 20)
abbrev K8 : List Nat := [0, 2, 3, 4, 5, 6, 7, 8, 9, 12, 16, 33, 47, 63, 67]
theorem n8 : Try.f8.ntmps = 88 := by kernel_rfl
theorem r8 : resT Try.f8.results.toList = some [2, 3] := by kernel_rfl
theorem x8 : cmpF Try.prog Try.f8 = some (expand T8 22 X8) := by kernel_rfl
def T9n0 : XC := .seq (.ops [XS.mk (some 2) none (XI.k (XK.mov (Operand.const (Value.slice none 0 0)))), XS.mk (some 3) none (XI.k (XK.mov (Operand.const (Value.int IntKind.i64 2))))]) (.ret)
def T9n1 : XC := .seq (.ops [XS.mk (some 2) none (XI.k (XK.mov (Operand.const (Value.slice none 0 0)))), XS.mk (some 3) none (XI.k (XK.mov (Operand.const (Value.int IntKind.i64 2))))]) (.ret)
def T9n2 : XC := .seq (.ops [XS.mk (some 2) none (XI.k (XK.mov (Operand.const (Value.slice none 0 0)))), XS.mk (some 3) none (XI.k (XK.mov (Operand.const (Value.int IntKind.i64 2))))]) (.ret)
def T9n3 : XC := .ops [XS.mk (some 45) none (XI.k (XK.mov (Operand.tmp 4))), XS.mk (some 46) none (XI.k (XK.mov (Operand.tmp 8))), XS.mk (some 47) none (XI.k (XK.conv IntKind.u8 (Operand.tmp 46))), XS.mk (some 48) none (XI.k (XK.buildS 5 1 1 [Value.int IntKind.u8 0] [(0, Operand.tmp 47)])), XS.mk (some 49) none (XI.k (XK.app 5 1 1 (Operand.tmp 45) (Operand.tmp 48))), XS.mk (some 4) none (XI.k (XK.mov (Operand.tmp 49)))]
def T9n4 : XC := .seq (.seq (.ops [XS.mk (some 39) none (XI.k (XK.mov (Operand.tmp 8))), XS.mk (some 40) none (XI.k (XK.cmp BinOp.lss IntKind.i64 (Operand.tmp 39) (Operand.const (Value.int IntKind.i64 0)))), XS.mk (some 41) none (XI.k (XK.mov (Operand.tmp 40))), XS.mk (some 42) (some (41, false)) (XI.k (XK.mov (Operand.tmp 8))), XS.mk (some 43) (some (41, false)) (XI.k (XK.cmp BinOp.gtr IntKind.i64 (Operand.tmp 42) (Operand.const (Value.int IntKind.i64 255)))), XS.mk (some 44) none (XI.k (XK.pick (Operand.tmp 41) (Operand.const (Value.bool true)) (Operand.tmp 43)))]) (.cond (Operand.tmp 44) (.ref 2) (.skip))) (.ref 3)
def T9n5 : XC := .seq (.blk 3 (.seq (.ops [XS.mk (some 38) none (XI.k (XK.ixA 4 1 false (Operand.tmp 35) (Operand.tmp 36))), XS.mk (some 8) none (XI.k (XK.mov (Operand.tmp 38)))]) (.ref 4))) (.ops [XS.mk (some 50) none (XI.k (XK.arith BinOp.add IntKind.i64 (Operand.tmp 36) (Operand.const (Value.int IntKind.i64 1)))), XS.mk (some 36) none (XI.k (XK.mov (Operand.tmp 50)))])
def T9n6 : XC := .seq (.cond (Operand.tmp 37) (.skip) (.exit 2)) (.ref 5)
def T9n7 : XC := .seq (.ops [XS.mk (some 37) none (XI.k (XK.cmp BinOp.lss IntKind.i64 (Operand.tmp 36) (Operand.const (Value.int IntKind.i64 4))))]) (.ref 6)
def T9n8 : XC := .ops [XS.mk (some 55) none (XI.k (XK.mov (Operand.tmp 4))), XS.mk (some 56) none (XI.k (XK.mov (Operand.tmp 9))), XS.mk (some 57) none (XI.k (XK.shift BinOp.shr IntKind.u32 (Operand.tmp 56) (Operand.const (Value.int IntKind.u64 24)))), XS.mk (some 58) none (XI.k (XK.conv IntKind.u8 (Operand.tmp 57))), XS.mk (some 59) none (XI.k (XK.mov (Operand.tmp 9))), XS.mk (some 60) none (XI.k (XK.shift BinOp.shr IntKind.u32 (Operand.tmp 59) (Operand.const (Value.int IntKind.u64 16)))), XS.mk (some 61) none (XI.k (XK.conv IntKind.u8 (Operand.tmp 60))), XS.mk (some 62) none (XI.k (XK.mov (Operand.tmp 9))), XS.mk (some 63) none (XI.k (XK.shift BinOp.shr IntKind.u32 (Operand.tmp 62) (Operand.const (Value.int IntKind.u64 8)))), XS.mk (some 64) none (XI.k (XK.conv IntKind.u8 (Operand.tmp 63))), XS.mk (some 65) none (XI.k (XK.mov (Operand.tmp 9))), XS.mk (some 66) none (XI.k (XK.conv IntKind.u8 (Operand.tmp 65))), XS.mk (some 67) none (XI.k (XK.buildS 5 4 1 [Value.int IntKind.u8 0] [(0, Operand.tmp 58), (1, Operand.tmp 61), (2, Operand.tmp 64), (3, Operand.tmp 66)])), XS.mk (some 68) none (XI.k (XK.app 5 1 1 (Operand.tmp 55) (Operand.tmp 67))), XS.mk (some 4) none (XI.k (XK.mov (Operand.tmp 68)))]
def T9n9 : XC := .seq (.ops [XS.mk (some 51) none (XI.k (XK.fld 4 (Operand.tmp 6))), XS.mk (some 52) none (XI.k (XK.load [CK.int IntKind.i64] false (Operand.tmp 51))), XS.mk (some 53) none (XI.k (XK.conv IntKind.i32 (Operand.tmp 52))), XS.mk (some 54) none (XI.k (XK.conv IntKind.u32 (Operand.tmp 53))), XS.mk (some 9) none (XI.k (XK.mov (Operand.tmp 54)))]) (.ref 8)
def T9n10 : XC := .seq (.seq (.ops [XS.mk (some 27) none (XI.k (XK.fld 0 (Operand.tmp 6))), XS.mk (some 28) none (XI.k (XK.load [CK.int IntKind.i64] false (Operand.tmp 27))), XS.mk (some 29) none (XI.k (XK.fld 1 (Operand.tmp 6))), XS.mk (some 30) none (XI.k (XK.load [CK.int IntKind.i64] false (Operand.tmp 29))), XS.mk (some 31) none (XI.k (XK.fld 2 (Operand.tmp 6))), XS.mk (some 32) none (XI.k (XK.load [CK.int IntKind.i64] false (Operand.tmp 31))), XS.mk (some 33) none (XI.k (XK.fld 3 (Operand.tmp 6))), XS.mk (some 34) none (XI.k (XK.load [CK.int IntKind.i64] false (Operand.tmp 33))), XS.mk (some 35) none (XI.k (XK.build [Value.int IntKind.i64 0, Value.int IntKind.i64 0, Value.int IntKind.i64 0, Value.int IntKind.i64 0] [(0, 1, Operand.tmp 28), (1, 1, Operand.tmp 30), (2, 1, Operand.tmp 32), (3, 1, Operand.tmp 34)])), XS.mk (some 36) none (XI.k (XK.mov (Operand.const (Value.int IntKind.i64 0))))]) (.blk 2 (.loop (.ref 7)))) (.ref 9)
def T9n11 : XC := .seq (.seq (.ops [XS.mk (some 19) none (XI.k (XK.fld 4 (Operand.tmp 6))), XS.mk (some 20) none (XI.k (XK.load [CK.int IntKind.i64] false (Operand.tmp 19))), XS.mk (some 21) none (XI.k (XK.cmp BinOp.lss IntKind.i64 (Operand.tmp 20) (Operand.const (Value.int IntKind.i64 (-2147483648))))), XS.mk (some 22) none (XI.k (XK.mov (Operand.tmp 21))), XS.mk (some 23) (some (22, false)) (XI.k (XK.fld 4 (Operand.tmp 6))), XS.mk (some 24) (some (22, false)) (XI.k (XK.load [CK.int IntKind.i64] false (Operand.tmp 23))), XS.mk (some 25) (some (22, false)) (XI.k (XK.cmp BinOp.gtr IntKind.i64 (Operand.tmp 24) (Operand.const (Value.int IntKind.i64 2147483647)))), XS.mk (some 26) none (XI.k (XK.pick (Operand.tmp 22) (Operand.const (Value.bool true)) (Operand.tmp 25)))]) (.cond (Operand.tmp 26) (.ref 1) (.skip))) (.ref 10)
def T9n12 : XC := .seq (.blk 1 (.seq (.ops [XS.mk (some 17) none (XI.k (XK.idx 5 (Operand.tmp 13) (Operand.tmp 15))), XS.mk (some 18) none (XI.k (XK.load [CK.int IntKind.i64, CK.int IntKind.i64, CK.int IntKind.i64, CK.int IntKind.i64, CK.int IntKind.i64] true (Operand.tmp 17))), XS.mk (some 6) none (XI.k (XK.alloc 27 [Value.int IntKind.i64 0, Value.int IntKind.i64 0, Value.int IntKind.i64 0, Value.int IntKind.i64 0, Value.int IntKind.i64 0])), XS.mk none none (XI.k (XK.store 5 (Operand.tmp 6) (Operand.tmp 18)))]) (.ref 11))) (.ops [XS.mk (some 69) none (XI.k (XK.arith BinOp.add IntKind.i64 (Operand.tmp 15) (Operand.const (Value.int IntKind.i64 1)))), XS.mk (some 15) none (XI.k (XK.mov (Operand.tmp 69)))])
def T9n13 : XC := .seq (.cond (Operand.tmp 16) (.skip) (.exit 0)) (.ref 12)
def T9n14 : XC := .seq (.ops [XS.mk (some 16) none (XI.k (XK.cmp BinOp.lss IntKind.i64 (Operand.tmp 15) (Operand.tmp 14)))]) (.ref 13)
def T9n15 : XC := .seq (.ops [XS.mk (some 70) none (XI.k (XK.mov (Operand.tmp 4))), XS.mk (some 2) none (XI.k (XK.mov (Operand.tmp 70))), XS.mk (some 3) none (XI.k (XK.mov (Operand.const (Value.int IntKind.i64 0))))]) (.ret)
def T9n16 : XC := .seq (.seq (.ops [XS.mk (some 13) none (XI.k (XK.mov (Operand.tmp 0))), XS.mk (some 14) none (XI.k (XK.lenS (Operand.tmp 13))), XS.mk (some 15) none (XI.k (XK.mov (Operand.const (Value.int IntKind.i64 0))))]) (.blk 0 (.loop (.ref 14)))) (.ref 15)
def T9n17 : XC := .seq (.ops [XS.mk (some 4) none (XI.k (XK.mov (Operand.const (Value.slice none 0 0))))]) (.ref 16)
def T9n18 : XC := .seq (.seq (.ops [XS.mk (some 10) none (XI.k (XK.mov (Operand.tmp 0))), XS.mk (some 11) none (XI.k (XK.lenS (Operand.tmp 10))), XS.mk (some 12) none (XI.k (XK.cmp BinOp.gtr IntKind.i64 (Operand.tmp 11) (Operand.const (Value.int IntKind.i64 1024))))]) (.cond (Operand.tmp 12) (.ref 0) (.skip))) (.ref 17)
def T9 : Nat → XC
  | 0 => T9n0
  | 1 => T9n1
  | 2 => T9n2
  | 3 => T9n3
  | 4 => T9n4
  | 5 => T9n5
  | 6 => T9n6
  | 7 => T9n7
  | 8 => T9n8
  | 9 => T9n9
  | 10 => T9n10
  | 11 => T9n11
  | 12 => T9n12
  | 13 => T9n13
  | 14 => T9n14
  | 15 => T9n15
  | 16 => T9n16
  | 17 => T9n17
  | 18 => T9n18
  | _ => .skip
theorem t9n0 : T9 0 = T9n0 := rfl
theorem t9n1 : T9 1 = T9n1 := rfl
theorem t9n2 : T9 2 = T9n2 := rfl
theorem t9n3 : T9 3 = T9n3 := rfl
theorem t9n4 : T9 4 = T9n4 := rfl
theorem t9n5 : T9 5 = T9n5 := rfl
theorem t9n6 : T9 6 = T9n6 := rfl
theorem t9n7 : T9 7 = T9n7 := rfl
theorem t9n8 : T9 8 = T9n8 := rfl
theorem t9n9 : T9 9 = T9n9 := rfl
theorem t9n10 : T9 10 = T9n10 := rfl
theorem t9n11 : T9 11 = T9n11 := rfl
theorem t9n12 : T9 12 = T9n12 := rfl
theorem t9n13 : T9 13 = T9n13 := rfl
theorem t9n14 : T9 14 = T9n14 := rfl
theorem t9n15 : T9 15 = T9n15 := rfl
theorem t9n16 : T9 16 = T9n16 := rfl
theorem t9n17 : T9 17 = T9n17 := rfl
theorem t9n18 : T9 18 = T9n18 := rfl
def X9 : XC := .seq (.ops [XS.mk (some 2) none (XI.k (XK.mov (Operand.const (Value.slice none 0 0)))), XS.mk (some 3) none (XI.k (XK.mov (Operand.const (Value.int IntKind.i64 0))))]) (.ref 18)
abbrev K9 : List Nat := [0, 2, 3, 4, 6, 8, 9, 12, 13, 14, 15, 16, 26, 35, 36, 37, 44]
theorem n9 : Try.f9.ntmps = 71 := by kernel_rfl
theorem r9 : resT Try.f9.results.toList = some [2, 3] := by kernel_rfl
theorem x9 : cmpF Try.prog Try.f9 = some (expand T9 20 X9) := by kernel_rfl
def T10n0 : XC := .seq (.ops [XS.mk (some 3) none (XI.k (XK.mkfn (Fn.func 11) [] [Operand.tmp 1])), XS.mk (some 2) none (XI.k (XK.mov (Operand.tmp 3)))]) (.ret)
def T10 : Nat → XC
  | 0 => T10n0
  | _ => .skip
theorem t10n0 : T10 0 = T10n0 := rfl
def X10 : XC := .seq (.ops [XS.mk (some 1) none (XI.k (XK.box 22 1 (Operand.tmp 0))), XS.mk (some 2) none (XI.k (XK.mov (Operand.const Value.nilFunc)))]) (.ref 0)
abbrev K10 : List Nat := [0, 1, 2]
theorem n10 : Try.f10.ntmps = 4 := by kernel_rfl
theorem r10 : resT Try.f10.results.toList = some [2] := by kernel_rfl
theorem x10 : cmpF Try.prog Try.f10 = some (expand T10 2 X10) := by kernel_rfl
def T11n0 : XC := .blk 1 (.ops [XS.mk (some 12) none (XI.k (XK.load [CK.slc] false (Operand.tmp 1))), XS.mk (some 13) none (XI.k (XK.sub 1 (Operand.tmp 12) (some (Operand.const (Value.int IntKind.i64 8))) none)), XS.mk none none (XI.k (XK.store 1 (Operand.tmp 1) (Operand.tmp 13)))])
def T11n1 : XC := .seq (.seq (.ops [XS.mk (some 3) none (XI.k (XK.load [CK.slc] false (Operand.tmp 1))), XS.mk (some 4) none (XI.k (XK.lenS (Operand.tmp 3))), XS.mk (some 5) none (XI.k (XK.cmp BinOp.geq IntKind.i64 (Operand.tmp 4) (Operand.const (Value.int IntKind.i64 8)))), XS.mk (some 6) none (XI.k (XK.mov (Operand.tmp 5))), XS.mk (some 7) (some (6, true)) (XI.k (XK.mov (Operand.tmp 0))), XS.mk (some 8) (some (6, true)) (XI.k (XK.load [CK.slc] false (Operand.tmp 1))), XS.mk (some 9) (some (6, true)) (XI.k (XK.sub 1 (Operand.tmp 8) none (some (Operand.const (Value.int IntKind.i64 8))))), XS.mk (some 10) (some (6, true)) (XI.callv (Operand.tmp 7) [Operand.tmp 9]), XS.mk (some 11) none (XI.k (XK.pick (Operand.tmp 6) (Operand.tmp 10) (Operand.const (Value.bool false))))]) (.cond (Operand.tmp 11) (.skip) (.exit 0))) (.ref 0)
def T11 : Nat → XC
  | 0 => T11n0
  | 1 => T11n1
  | _ => .skip
theorem t11n0 : T11 0 = T11n0 := rfl
theorem t11n1 : T11 1 = T11n1 := rfl
def X11 : XC := .blk 0 (.loop (.ref 1))
abbrev K11 : List Nat := [0, 1, 11]
theorem n11 : Try.f11.ntmps = 14 := by kernel_rfl
theorem r11 : resT Try.f11.results.toList = some [] := by kernel_rfl
theorem x11 : cmpF Try.prog Try.f11 = some (expand T11 3 X11) := by kernel_rfl
end Go.Proofs.Ytpoopljpodkdcaa
