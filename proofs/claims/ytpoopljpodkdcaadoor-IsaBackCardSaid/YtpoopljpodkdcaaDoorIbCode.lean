/- Printed by program: the small code of functions, and that it is theirs. -/
import Derived.Test.YtpoopljpodkdcaaDoorSxStill
import Derived.Test.YtpoopljpodkdcaaDoorProg
import Derived.KernelRfl
set_option linter.unusedSimpArgs false
set_option linter.unusedVariables false
set_option linter.unnecessarySimpa false
namespace Go.Proofs.YtpoopljpodkdcaaDoor
open Go Go.Sx
set_option maxRecDepth 100000
def T9n0 : XC := .seq (.ops [XS.mk (some 28) none (XI.k (XK.mov (Operand.tmp 5))), XS.mk (some 4) none (XI.k (XK.mov (Operand.tmp 28)))]) (.ret)
def T9n1 : XC := .ops [XS.mk (some 36) none (XI.k (XK.mov (Operand.tmp 7))), XS.mk (some 37) none (XI.k (XK.arith BinOp.add IntKind.i64 (Operand.tmp 36) (Operand.const (Value.int IntKind.i64 1)))), XS.mk (some 7) none (XI.k (XK.mov (Operand.tmp 37)))]
def T9n2 : XC := .seq (.blk 1 (.ops [XS.mk (some 38) none (XI.k (XK.mov (Operand.tmp 6))), XS.mk (some 39) none (XI.k (XK.mov (Operand.tmp 38))), XS.mk (some 40) (some (39, true)) (XI.k (XK.mov (Operand.tmp 0))), XS.mk (some 41) (some (39, true)) (XI.k (XK.mov (Operand.tmp 7))), XS.mk (some 42) (some (39, true)) (XI.k (XK.idx 5 (Operand.tmp 40) (Operand.tmp 41))), XS.mk (some 43) (some (39, true)) (XI.k (XK.load [CK.int IntKind.i64, CK.int IntKind.i64, CK.int IntKind.i64, CK.int IntKind.i64, CK.int IntKind.i64] true (Operand.tmp 42))), XS.mk (some 44) (some (39, true)) (XI.call 24 [Operand.tmp 43]), XS.mk (some 45) none (XI.k (XK.pick (Operand.tmp 39) (Operand.tmp 44) (Operand.const (Value.bool false)))), XS.mk (some 6) none (XI.k (XK.mov (Operand.tmp 45)))])) (.ref 1)
def T9n3 : XC := .seq (.seq (.ops [XS.mk (some 32) none (XI.k (XK.mov (Operand.tmp 7))), XS.mk (some 33) none (XI.k (XK.mov (Operand.tmp 0))), XS.mk (some 34) none (XI.k (XK.lenS (Operand.tmp 33))), XS.mk (some 35) none (XI.k (XK.cmp BinOp.lss IntKind.i64 (Operand.tmp 32) (Operand.tmp 34)))]) (.cond (Operand.tmp 35) (.skip) (.exit 0))) (.ref 2)
def T9n4 : XC := .seq (.ops [XS.mk (some 4) none (XI.k (XK.mov (Operand.const (Value.bool false))))]) (.ret)
def T9n5 : XC := .seq (.ops [XS.mk (some 4) none (XI.k (XK.mov (Operand.const (Value.bool false))))]) (.ret)
def T9n6 : XC := .seq (.ops [XS.mk (some 4) none (XI.k (XK.mov (Operand.const (Value.bool false))))]) (.ret)
def T9n7 : XC := .ops [XS.mk (some 82) none (XI.k (XK.mov (Operand.tmp 11))), XS.mk (some 83) none (XI.k (XK.arith BinOp.add IntKind.i64 (Operand.tmp 82) (Operand.const (Value.int IntKind.i64 1)))), XS.mk (some 11) none (XI.k (XK.mov (Operand.tmp 83)))]
def T9n8 : XC := .seq (.blk 3 (.seq (.ops [XS.mk (some 84) none (XI.k (XK.mov (Operand.tmp 10))), XS.mk (some 85) none (XI.k (XK.mov (Operand.tmp 11))), XS.mk (some 86) none (XI.k (XK.idx 5 (Operand.tmp 84) (Operand.tmp 85))), XS.mk (some 87) none (XI.k (XK.load [CK.int IntKind.i64, CK.int IntKind.i64, CK.int IntKind.i64, CK.int IntKind.i64, CK.int IntKind.i64] true (Operand.tmp 86))), XS.mk (some 88) none (XI.k (XK.mov (Operand.tmp 0))), XS.mk (some 89) none (XI.k (XK.mov (Operand.tmp 11))), XS.mk (some 90) none (XI.k (XK.idx 5 (Operand.tmp 88) (Operand.tmp 89))), XS.mk (some 91) none (XI.k (XK.load [CK.int IntKind.i64, CK.int IntKind.i64, CK.int IntKind.i64, CK.int IntKind.i64, CK.int IntKind.i64] true (Operand.tmp 90))), XS.mk (some 92) none (XI.k (XK.eqa true [CK.int IntKind.i64, CK.int IntKind.i64, CK.int IntKind.i64, CK.int IntKind.i64, CK.int IntKind.i64] (Operand.tmp 87) (Operand.tmp 91)))]) (.cond (Operand.tmp 92) (.ref 6) (.skip)))) (.ref 7)
def T9n9 : XC := .seq (.seq (.ops [XS.mk (some 78) none (XI.k (XK.mov (Operand.tmp 11))), XS.mk (some 79) none (XI.k (XK.mov (Operand.tmp 10))), XS.mk (some 80) none (XI.k (XK.lenS (Operand.tmp 79))), XS.mk (some 81) none (XI.k (XK.cmp BinOp.lss IntKind.i64 (Operand.tmp 78) (Operand.tmp 80)))]) (.cond (Operand.tmp 81) (.skip) (.exit 2))) (.ref 8)
def T9n10 : XC := .seq (.ops [XS.mk (some 100) none (XI.k (XK.mov (Operand.tmp 5))), XS.mk (some 101) none (XI.k (XK.mov (Operand.tmp 100))), XS.mk (some 102) (some (101, true)) (XI.k (XK.mov (Operand.tmp 14))), XS.mk (some 103) (some (101, true)) (XI.k (XK.cmp BinOp.eql IntKind.i64 (Operand.tmp 102) (Operand.const (Value.int IntKind.i64 0)))), XS.mk (some 104) none (XI.k (XK.pick (Operand.tmp 101) (Operand.tmp 103) (Operand.const (Value.bool false)))), XS.mk (some 105) none (XI.k (XK.mov (Operand.tmp 104))), XS.mk (some 106) (some (105, true)) (XI.k (XK.mov (Operand.tmp 12))), XS.mk (some 107) (some (105, true)) (XI.k (XK.lenS (Operand.tmp 106))), XS.mk (some 108) (some (105, true)) (XI.k (XK.mov (Operand.tmp 1))), XS.mk (some 109) (some (105, true)) (XI.k (XK.lenS (Operand.tmp 108))), XS.mk (some 110) (some (105, true)) (XI.k (XK.div BinOp.quo IntKind.i64 (Operand.tmp 109) (Operand.const (Value.int IntKind.i64 8)))), XS.mk (some 111) (some (105, true)) (XI.k (XK.mm false IntKind.i64 (Operand.const (Value.int IntKind.i64 1024)) (Operand.tmp 110))), XS.mk (some 112) (some (105, true)) (XI.k (XK.cmp BinOp.eql IntKind.i64 (Operand.tmp 107) (Operand.tmp 111))), XS.mk (some 113) none (XI.k (XK.pick (Operand.tmp 105) (Operand.tmp 112) (Operand.const (Value.bool false)))), XS.mk (some 114) none (XI.k (XK.mov (Operand.tmp 113))), XS.mk (some 115) (some (114, true)) (XI.k (XK.mov (Operand.tmp 13))), XS.mk (some 116) (some (114, true)) (XI.k (XK.b2s (Operand.tmp 115))), XS.mk (some 117) (some (114, true)) (XI.k (XK.mov (Operand.tmp 1))), XS.mk (some 118) (some (114, true)) (XI.k (XK.mov (Operand.tmp 12))), XS.mk (some 119) (some (114, true)) (XI.k (XK.lenS (Operand.tmp 118))), XS.mk (some 120) (some (114, true)) (XI.k (XK.arith BinOp.mul IntKind.i64 (Operand.const (Value.int IntKind.i64 8)) (Operand.tmp 119))), XS.mk (some 121) (some (114, true)) (XI.k (XK.sub 1 (Operand.tmp 117) none (some (Operand.tmp 120)))), XS.mk (some 122) (some (114, true)) (XI.k (XK.b2s (Operand.tmp 121))), XS.mk (some 123) (some (114, true)) (XI.k (XK.eqs BinOp.eql (Operand.tmp 116) (Operand.tmp 122))), XS.mk (some 124) none (XI.k (XK.pick (Operand.tmp 114) (Operand.tmp 123) (Operand.const (Value.bool false)))), XS.mk (some 4) none (XI.k (XK.mov (Operand.tmp 124)))]) (.ret)
def T9n11 : XC := .seq (.ops [XS.mk (some 96) none (XI.k (XK.mov (Operand.tmp 12))), XS.mk (some 97) none (XI.call 23 [Operand.tmp 96]), XS.mk (some 95) none (XI.k (XK.mov (Operand.tmp 97))), XS.mk (some 98) none (XI.k (XK.ext (Operand.tmp 95) 0)), XS.mk (some 99) none (XI.k (XK.ext (Operand.tmp 95) 1)), XS.mk (some 13) none (XI.k (XK.mov (Operand.tmp 98))), XS.mk (some 14) none (XI.k (XK.mov (Operand.tmp 99)))]) (.ref 10)
def T9n12 : XC := .seq (.ops [XS.mk (some 93) none (XI.k (XK.mov (Operand.tmp 1))), XS.mk (some 94) none (XI.call 22 [Operand.tmp 93]), XS.mk (some 12) none (XI.k (XK.mov (Operand.tmp 94)))]) (.ref 11)
def T9n13 : XC := .seq (.seq (.ops [XS.mk (some 11) none (XI.k (XK.mov (Operand.const (Value.int IntKind.i64 0))))]) (.blk 2 (.loop (.ref 9)))) (.ref 12)
def T9n14 : XC := .seq (.seq (.ops [XS.mk (some 70) none (XI.k (XK.mov (Operand.tmp 6))), XS.mk (some 71) none (XI.k (XK.mov (Operand.tmp 70))), XS.mk (some 72) (some (71, true)) (XI.k (XK.mov (Operand.tmp 10))), XS.mk (some 73) (some (71, true)) (XI.k (XK.lenS (Operand.tmp 72))), XS.mk (some 74) (some (71, true)) (XI.k (XK.mov (Operand.tmp 0))), XS.mk (some 75) (some (71, true)) (XI.k (XK.lenS (Operand.tmp 74))), XS.mk (some 76) (some (71, true)) (XI.k (XK.cmp BinOp.neq IntKind.i64 (Operand.tmp 73) (Operand.tmp 75))), XS.mk (some 77) none (XI.k (XK.pick (Operand.tmp 71) (Operand.tmp 76) (Operand.const (Value.bool false))))]) (.cond (Operand.tmp 77) (.ref 5) (.skip))) (.ref 13)
def T9n15 : XC := .seq (.ops [XS.mk (some 68) none (XI.k (XK.mov (Operand.tmp 8))), XS.mk (some 69) none (XI.call 22 [Operand.tmp 68]), XS.mk (some 10) none (XI.k (XK.mov (Operand.tmp 69)))]) (.ref 14)
def T9n16 : XC := .seq (.seq (.ops [XS.mk (some 51) none (XI.k (XK.mov (Operand.tmp 6))), XS.mk (some 52) none (XI.k (XK.mov (Operand.tmp 9))), XS.mk (some 53) none (XI.k (XK.cmp BinOp.eql IntKind.i64 (Operand.tmp 52) (Operand.const (Value.int IntKind.i64 0)))), XS.mk (some 54) none (XI.k (XK.eqb true (Operand.tmp 51) (Operand.tmp 53))), XS.mk (some 55) none (XI.k (XK.mov (Operand.tmp 54))), XS.mk (some 56) (some (55, false)) (XI.k (XK.mov (Operand.tmp 6))), XS.mk (some 57) (some (55, false)) (XI.k (XK.not (Operand.tmp 56))), XS.mk (some 58) (some (55, false)) (XI.k (XK.mov (Operand.tmp 57))), XS.mk (some 59) (some (58, true)) (XI.k (XK.mov (Operand.tmp 9))), XS.mk (some 60) (some (58, true)) (XI.k (XK.cmp BinOp.neq IntKind.i64 (Operand.tmp 59) (Operand.const (Value.int IntKind.i64 2)))), XS.mk (some 61) (some (58, true)) (XI.k (XK.mov (Operand.tmp 60))), XS.mk (some 62) (some (61, false)) (XI.k (XK.mov (Operand.tmp 8))), XS.mk (some 63) (some (61, false)) (XI.k (XK.lenS (Operand.tmp 62))), XS.mk (some 64) (some (61, false)) (XI.k (XK.cmp BinOp.neq IntKind.i64 (Operand.tmp 63) (Operand.const (Value.int IntKind.i64 0)))), XS.mk (some 65) (some (58, true)) (XI.k (XK.pick (Operand.tmp 61) (Operand.const (Value.bool true)) (Operand.tmp 64))), XS.mk (some 66) (some (55, false)) (XI.k (XK.pick (Operand.tmp 58) (Operand.tmp 65) (Operand.const (Value.bool false)))), XS.mk (some 67) none (XI.k (XK.pick (Operand.tmp 55) (Operand.const (Value.bool true)) (Operand.tmp 66)))]) (.cond (Operand.tmp 67) (.ref 4) (.skip))) (.ref 15)
def T9n17 : XC := .seq (.ops [XS.mk (some 47) none (XI.k (XK.mov (Operand.tmp 0))), XS.mk (some 48) none (XI.call 23 [Operand.tmp 47]), XS.mk (some 46) none (XI.k (XK.mov (Operand.tmp 48))), XS.mk (some 49) none (XI.k (XK.ext (Operand.tmp 46) 0)), XS.mk (some 50) none (XI.k (XK.ext (Operand.tmp 46) 1)), XS.mk (some 8) none (XI.k (XK.mov (Operand.tmp 49))), XS.mk (some 9) none (XI.k (XK.mov (Operand.tmp 50)))]) (.ref 16)
def T9n18 : XC := .seq (.seq (.ops [XS.mk (some 7) none (XI.k (XK.mov (Operand.const (Value.int IntKind.i64 0))))]) (.blk 0 (.loop (.ref 3)))) (.ref 17)
def T9n19 : XC := .seq (.ops [XS.mk (some 29) none (XI.k (XK.mov (Operand.tmp 0))), XS.mk (some 30) none (XI.k (XK.lenS (Operand.tmp 29))), XS.mk (some 31) none (XI.k (XK.cmp BinOp.leq IntKind.i64 (Operand.tmp 30) (Operand.const (Value.int IntKind.i64 1024)))), XS.mk (some 6) none (XI.k (XK.mov (Operand.tmp 31)))]) (.ref 18)
def T9n20 : XC := .seq (.seq (.ops [XS.mk (some 16) none (XI.k (XK.mov (Operand.tmp 0))), XS.mk (some 17) none (XI.k (XK.lenS (Operand.tmp 16))), XS.mk (some 18) none (XI.k (XK.cmp BinOp.gtr IntKind.i64 (Operand.tmp 17) (Operand.const (Value.int IntKind.i64 3000)))), XS.mk (some 19) none (XI.k (XK.mov (Operand.tmp 18))), XS.mk (some 20) (some (19, false)) (XI.k (XK.mov (Operand.tmp 1))), XS.mk (some 21) (some (19, false)) (XI.k (XK.lenS (Operand.tmp 20))), XS.mk (some 22) (some (19, false)) (XI.k (XK.cmp BinOp.gtr IntKind.i64 (Operand.tmp 21) (Operand.const (Value.int IntKind.i64 20000)))), XS.mk (some 23) none (XI.k (XK.pick (Operand.tmp 19) (Operand.const (Value.bool true)) (Operand.tmp 22))), XS.mk (some 24) none (XI.k (XK.mov (Operand.tmp 23))), XS.mk (some 25) (some (24, false)) (XI.k (XK.mov (Operand.tmp 5))), XS.mk (some 26) (some (24, false)) (XI.k (XK.not (Operand.tmp 25))), XS.mk (some 27) none (XI.k (XK.pick (Operand.tmp 24) (Operand.const (Value.bool true)) (Operand.tmp 26)))]) (.cond (Operand.tmp 27) (.ref 0) (.skip))) (.ref 19)
def T9n21 : XC := .seq (.ops [XS.mk (some 15) none (XI.call 18 []), XS.mk (some 5) none (XI.k (XK.mov (Operand.tmp 15)))]) (.ref 20)
def T9 : Nat → XC
  | 0 => T9n0
  | 1 => T9n1
  | 2 => T9n2
  | 3 => T9n3
  | 4 => T9n4
  | 5 => T9n5
  | 6 => T9n6
  | 7 => T9n7
  | 8 => T9n8
  | 9 => T9n9
  | 10 => T9n10
  | 11 => T9n11
  | 12 => T9n12
  | 13 => T9n13
  | 14 => T9n14
  | 15 => T9n15
  | 16 => T9n16
  | 17 => T9n17
  | 18 => T9n18
  | 19 => T9n19
  | 20 => T9n20
  | 21 => T9n21
  | _ => .skip
theorem t9n0 : T9 0 = T9n0 := rfl
theorem t9n1 : T9 1 = T9n1 := rfl
theorem t9n2 : T9 2 = T9n2 := rfl
theorem t9n3 : T9 3 = T9n3 := rfl
theorem t9n4 : T9 4 = T9n4 := rfl
theorem t9n5 : T9 5 = T9n5 := rfl
theorem t9n6 : T9 6 = T9n6 := rfl
theorem t9n7 : T9 7 = T9n7 := rfl
theorem t9n8 : T9 8 = T9n8 := rfl
theorem t9n9 : T9 9 = T9n9 := rfl
theorem t9n10 : T9 10 = T9n10 := rfl
theorem t9n11 : T9 11 = T9n11 := rfl
theorem t9n12 : T9 12 = T9n12 := rfl
theorem t9n13 : T9 13 = T9n13 := rfl
theorem t9n14 : T9 14 = T9n14 := rfl
theorem t9n15 : T9 15 = T9n15 := rfl
theorem t9n16 : T9 16 = T9n16 := rfl
theorem t9n17 : T9 17 = T9n17 := rfl
theorem t9n18 : T9 18 = T9n18 := rfl
theorem t9n19 : T9 19 = T9n19 := rfl
theorem t9n20 : T9 20 = T9n20 := rfl
theorem t9n21 : T9 21 = T9n21 := rfl
def X9 : XC := .seq (.ops [XS.mk (some 4) none (XI.k (XK.mov (Operand.const (Value.bool false))))]) (.ref 21)
abbrev K9 : List Nat := [0, 1, 4, 5, 6, 7, 8, 9, 10, 11, 12, 13, 14, 27, 35, 67, 77, 81, 92]
theorem n9 : Tryd.f9.ntmps = 125 := by kernel_rfl
theorem r9 : resT Tryd.f9.results.toList = some [4] := by kernel_rfl
theorem x9 : cmpF Tryd.prog Tryd.f9 = some (expand T9 23 X9) := by kernel_rfl
def T22n0 : XC := .ops [XS.mk (some 34) none (XI.k (XK.load [CK.slc] false (Operand.tmp 3))), XS.mk (some 35) none (XI.k (XK.mov (Operand.tmp 4))), XS.mk (some 36) none (XI.k (XK.idx 1 (Operand.tmp 35) (Operand.const (Value.int IntKind.i64 0)))), XS.mk (some 37) none (XI.k (XK.load [CK.int IntKind.u8] false (Operand.tmp 36))), XS.mk (some 38) none (XI.k (XK.conv IntKind.i64 (Operand.tmp 37))), XS.mk (some 39) none (XI.k (XK.mov (Operand.tmp 4))), XS.mk (some 40) none (XI.k (XK.idx 1 (Operand.tmp 39) (Operand.const (Value.int IntKind.i64 1)))), XS.mk (some 41) none (XI.k (XK.load [CK.int IntKind.u8] false (Operand.tmp 40))), XS.mk (some 42) none (XI.k (XK.conv IntKind.i64 (Operand.tmp 41))), XS.mk (some 43) none (XI.k (XK.mov (Operand.tmp 4))), XS.mk (some 44) none (XI.k (XK.idx 1 (Operand.tmp 43) (Operand.const (Value.int IntKind.i64 2)))), XS.mk (some 45) none (XI.k (XK.load [CK.int IntKind.u8] false (Operand.tmp 44))), XS.mk (some 46) none (XI.k (XK.conv IntKind.i64 (Operand.tmp 45))), XS.mk (some 47) none (XI.k (XK.mov (Operand.tmp 4))), XS.mk (some 48) none (XI.k (XK.idx 1 (Operand.tmp 47) (Operand.const (Value.int IntKind.i64 3)))), XS.mk (some 49) none (XI.k (XK.load [CK.int IntKind.u8] false (Operand.tmp 48))), XS.mk (some 50) none (XI.k (XK.conv IntKind.i64 (Operand.tmp 49))), XS.mk (some 51) none (XI.k (XK.mov (Operand.tmp 5))), XS.mk (some 52) none (XI.k (XK.conv IntKind.i32 (Operand.tmp 51))), XS.mk (some 53) none (XI.k (XK.conv IntKind.i64 (Operand.tmp 52))), XS.mk (some 54) none (XI.k (XK.build [Value.int IntKind.i64 0, Value.int IntKind.i64 0, Value.int IntKind.i64 0, Value.int IntKind.i64 0, Value.int IntKind.i64 0] [(0, 1, Operand.tmp 38), (1, 1, Operand.tmp 42), (2, 1, Operand.tmp 46), (3, 1, Operand.tmp 50), (4, 1, Operand.tmp 53)])), XS.mk (some 55) none (XI.k (XK.buildS 23 1 5 [Value.int IntKind.i64 0, Value.int IntKind.i64 0, Value.int IntKind.i64 0, Value.int IntKind.i64 0, Value.int IntKind.i64 0] [(0, Operand.tmp 54)])), XS.mk (some 56) none (XI.k (XK.app 23 5 40 (Operand.tmp 34) (Operand.tmp 55))), XS.mk none none (XI.k (XK.store 1 (Operand.tmp 3) (Operand.tmp 56)))]
def T22n1 : XC := .seq (.ops [XS.mk (some 12) none (XI.k (XK.mov (Operand.tmp 4))), XS.mk (some 13) none (XI.k (XK.idx 1 (Operand.tmp 12) (Operand.const (Value.int IntKind.i64 4)))), XS.mk (some 14) none (XI.k (XK.load [CK.int IntKind.u8] false (Operand.tmp 13))), XS.mk (some 15) none (XI.k (XK.conv IntKind.u32 (Operand.tmp 14))), XS.mk (some 16) none (XI.k (XK.shift BinOp.shl IntKind.u32 (Operand.tmp 15) (Operand.const (Value.int IntKind.u64 24)))), XS.mk (some 17) none (XI.k (XK.mov (Operand.tmp 4))), XS.mk (some 18) none (XI.k (XK.idx 1 (Operand.tmp 17) (Operand.const (Value.int IntKind.i64 5)))), XS.mk (some 19) none (XI.k (XK.load [CK.int IntKind.u8] false (Operand.tmp 18))), XS.mk (some 20) none (XI.k (XK.conv IntKind.u32 (Operand.tmp 19))), XS.mk (some 21) none (XI.k (XK.shift BinOp.shl IntKind.u32 (Operand.tmp 20) (Operand.const (Value.int IntKind.u64 16)))), XS.mk (some 22) none (XI.k (XK.bits BinOp.or IntKind.u32 (Operand.tmp 16) (Operand.tmp 21))), XS.mk (some 23) none (XI.k (XK.mov (Operand.tmp 4))), XS.mk (some 24) none (XI.k (XK.idx 1 (Operand.tmp 23) (Operand.const (Value.int IntKind.i64 6)))), XS.mk (some 25) none (XI.k (XK.load [CK.int IntKind.u8] false (Operand.tmp 24))), XS.mk (some 26) none (XI.k (XK.conv IntKind.u32 (Operand.tmp 25))), XS.mk (some 27) none (XI.k (XK.shift BinOp.shl IntKind.u32 (Operand.tmp 26) (Operand.const (Value.int IntKind.u64 8)))), XS.mk (some 28) none (XI.k (XK.bits BinOp.or IntKind.u32 (Operand.tmp 22) (Operand.tmp 27))), XS.mk (some 29) none (XI.k (XK.mov (Operand.tmp 4))), XS.mk (some 30) none (XI.k (XK.idx 1 (Operand.tmp 29) (Operand.const (Value.int IntKind.i64 7)))), XS.mk (some 31) none (XI.k (XK.load [CK.int IntKind.u8] false (Operand.tmp 30))), XS.mk (some 32) none (XI.k (XK.conv IntKind.u32 (Operand.tmp 31))), XS.mk (some 33) none (XI.k (XK.bits BinOp.or IntKind.u32 (Operand.tmp 28) (Operand.tmp 32))), XS.mk (some 5) none (XI.k (XK.mov (Operand.tmp 33)))]) (.ref 0)
def T22n2 : XC := .blk 1 (.seq (.seq (.ops [XS.mk (some 9) none (XI.k (XK.load [CK.slc] false (Operand.tmp 3))), XS.mk (some 10) none (XI.k (XK.lenS (Operand.tmp 9))), XS.mk (some 11) none (XI.k (XK.cmp BinOp.eql IntKind.i64 (Operand.tmp 10) (Operand.const (Value.int IntKind.i64 1024))))]) (.cond (Operand.tmp 11) (.exit 0) (.skip))) (.ref 1))
def T22n3 : XC := .blk 0 (.rng (Operand.tmp 7) [8] (.ops [XS.mk (some 4) none (XI.k (XK.mov (Operand.tmp 8)))]) (.ref 2))
def T22n4 : XC := .seq (.ops [XS.mk (some 57) none (XI.k (XK.load [CK.slc] false (Operand.tmp 3))), XS.mk (some 2) none (XI.k (XK.mov (Operand.tmp 57)))]) (.ret)
def T22n5 : XC := .seq (.seq (.ops [XS.mk (some 6) none (XI.k (XK.mov (Operand.tmp 0))), XS.mk (some 7) none (XI.call 43 [Operand.tmp 6])]) (.ref 3)) (.ref 4)
def T22n6 : XC := .seq (.ops [XS.mk (some 3) none (XI.k (XK.alloc 50 [Value.slice none 0 0]))]) (.ref 5)
def T22 : Nat → XC
  | 0 => T22n0
  | 1 => T22n1
  | 2 => T22n2
  | 3 => T22n3
  | 4 => T22n4
  | 5 => T22n5
  | 6 => T22n6
  | _ => .skip
theorem t22n0 : T22 0 = T22n0 := rfl
theorem t22n1 : T22 1 = T22n1 := rfl
theorem t22n2 : T22 2 = T22n2 := rfl
theorem t22n3 : T22 3 = T22n3 := rfl
theorem t22n4 : T22 4 = T22n4 := rfl
theorem t22n5 : T22 5 = T22n5 := rfl
theorem t22n6 : T22 6 = T22n6 := rfl
def X22 : XC := .seq (.ops [XS.mk (some 2) none (XI.k (XK.mov (Operand.const (Value.slice none 0 0))))]) (.ref 6)
abbrev K22 : List Nat := [0, 2, 3, 4, 5, 7, 8, 11]
theorem n22 : Tryd.f22.ntmps = 58 := by kernel_rfl
theorem r22 : resT Tryd.f22.results.toList = some [2] := by kernel_rfl
theorem x22 : cmpF Tryd.prog Tryd.f22 = some (expand T22 8 X22) := by kernel_rfl
def T23n0 : XC := .seq (.ops [XS.mk (some 2) none (XI.k (XK.mov (Operand.const (Value.slice none 0 0)))), XS.mk (some 3) none (XI.k (XK.mov (Operand.const (Value.int IntKind.i64 2))))]) (.ret)
def T23n1 : XC := .seq (.ops [XS.mk (some 2) none (XI.k (XK.mov (Operand.const (Value.slice none 0 0)))), XS.mk (some 3) none (XI.k (XK.mov (Operand.const (Value.int IntKind.i64 2))))]) (.ret)
def T23n2 : XC := .seq (.ops [XS.mk (some 2) none (XI.k (XK.mov (Operand.const (Value.slice none 0 0)))), XS.mk (some 3) none (XI.k (XK.mov (Operand.const (Value.int IntKind.i64 2))))]) (.ret)
def T23n3 : XC := .ops [XS.mk (some 45) none (XI.k (XK.mov (Operand.tmp 4))), XS.mk (some 46) none (XI.k (XK.mov (Operand.tmp 8))), XS.mk (some 47) none (XI.k (XK.conv IntKind.u8 (Operand.tmp 46))), XS.mk (some 48) none (XI.k (XK.buildS 5 1 1 [Value.int IntKind.u8 0] [(0, Operand.tmp 47)])), XS.mk (some 49) none (XI.k (XK.app 5 1 1 (Operand.tmp 45) (Operand.tmp 48))), XS.mk (some 4) none (XI.k (XK.mov (Operand.tmp 49)))]
def T23n4 : XC := .seq (.seq (.ops [XS.mk (some 39) none (XI.k (XK.mov (Operand.tmp 8))), XS.mk (some 40) none (XI.k (XK.cmp BinOp.lss IntKind.i64 (Operand.tmp 39) (Operand.const (Value.int IntKind.i64 0)))), XS.mk (some 41) none (XI.k (XK.mov (Operand.tmp 40))), XS.mk (some 42) (some (41, false)) (XI.k (XK.mov (Operand.tmp 8))), XS.mk (some 43) (some (41, false)) (XI.k (XK.cmp BinOp.gtr IntKind.i64 (Operand.tmp 42) (Operand.const (Value.int IntKind.i64 255)))), XS.mk (some 44) none (XI.k (XK.pick (Operand.tmp 41) (Operand.const (Value.bool true)) (Operand.tmp 43)))]) (.cond (Operand.tmp 44) (.ref 2) (.skip))) (.ref 3)
def T23n5 : XC := .seq (.blk 3 (.seq (.ops [XS.mk (some 38) none (XI.k (XK.ixA 4 1 false (Operand.tmp 35) (Operand.tmp 36))), XS.mk (some 8) none (XI.k (XK.mov (Operand.tmp 38)))]) (.ref 4))) (.ops [XS.mk (some 50) none (XI.k (XK.arith BinOp.add IntKind.i64 (Operand.tmp 36) (Operand.const (Value.int IntKind.i64 1)))), XS.mk (some 36) none (XI.k (XK.mov (Operand.tmp 50)))])
def T23n6 : XC := .seq (.cond (Operand.tmp 37) (.skip) (.exit 2)) (.ref 5)
def T23n7 : XC := .seq (.ops [XS.mk (some 37) none (XI.k (XK.cmp BinOp.lss IntKind.i64 (Operand.tmp 36) (Operand.const (Value.int IntKind.i64 4))))]) (.ref 6)
def T23n8 : XC := .ops [XS.mk (some 55) none (XI.k (XK.mov (Operand.tmp 4))), XS.mk (some 56) none (XI.k (XK.mov (Operand.tmp 9))), XS.mk (some 57) none (XI.k (XK.shift BinOp.shr IntKind.u32 (Operand.tmp 56) (Operand.const (Value.int IntKind.u64 24)))), XS.mk (some 58) none (XI.k (XK.conv IntKind.u8 (Operand.tmp 57))), XS.mk (some 59) none (XI.k (XK.mov (Operand.tmp 9))), XS.mk (some 60) none (XI.k (XK.shift BinOp.shr IntKind.u32 (Operand.tmp 59) (Operand.const (Value.int IntKind.u64 16)))), XS.mk (some 61) none (XI.k (XK.conv IntKind.u8 (Operand.tmp 60))), XS.mk (some 62) none (XI.k (XK.mov (Operand.tmp 9))), XS.mk (some 63) none (XI.k (XK.shift BinOp.shr IntKind.u32 (Operand.tmp 62) (Operand.const (Value.int IntKind.u64 8)))), XS.mk (some 64) none (XI.k (XK.conv IntKind.u8 (Operand.tmp 63))), XS.mk (some 65) none (XI.k (XK.mov (Operand.tmp 9))), XS.mk (some 66) none (XI.k (XK.conv IntKind.u8 (Operand.tmp 65))), XS.mk (some 67) none (XI.k (XK.buildS 5 4 1 [Value.int IntKind.u8 0] [(0, Operand.tmp 58), (1, Operand.tmp 61), (2, Operand.tmp 64), (3, Operand.tmp 66)])), XS.mk (some 68) none (XI.k (XK.app 5 1 1 (Operand.tmp 55) (Operand.tmp 67))), XS.mk (some 4) none (XI.k (XK.mov (Operand.tmp 68)))]
def T23n9 : XC := .seq (.ops [XS.mk (some 51) none (XI.k (XK.fld 4 (Operand.tmp 6))), XS.mk (some 52) none (XI.k (XK.load [CK.int IntKind.i64] false (Operand.tmp 51))), XS.mk (some 53) none (XI.k (XK.conv IntKind.i32 (Operand.tmp 52))), XS.mk (some 54) none (XI.k (XK.conv IntKind.u32 (Operand.tmp 53))), XS.mk (some 9) none (XI.k (XK.mov (Operand.tmp 54)))]) (.ref 8)
def T23n10 : XC := .seq (.seq (.ops [XS.mk (some 27) none (XI.k (XK.fld 0 (Operand.tmp 6))), XS.mk (some 28) none (XI.k (XK.load [CK.int IntKind.i64] false (Operand.tmp 27))), XS.mk (some 29) none (XI.k (XK.fld 1 (Operand.tmp 6))), XS.mk (some 30) none (XI.k (XK.load [CK.int IntKind.i64] false (Operand.tmp 29))), XS.mk (some 31) none (XI.k (XK.fld 2 (Operand.tmp 6))), XS.mk (some 32) none (XI.k (XK.load [CK.int IntKind.i64] false (Operand.tmp 31))), XS.mk (some 33) none (XI.k (XK.fld 3 (Operand.tmp 6))), XS.mk (some 34) none (XI.k (XK.load [CK.int IntKind.i64] false (Operand.tmp 33))), XS.mk (some 35) none (XI.k (XK.build [Value.int IntKind.i64 0, Value.int IntKind.i64 0, Value.int IntKind.i64 0, Value.int IntKind.i64 0] [(0, 1, Operand.tmp 28), (1, 1, Operand.tmp 30), (2, 1, Operand.tmp 32), (3, 1, Operand.tmp 34)])), XS.mk (some 36) none (XI.k (XK.mov (Operand.const (Value.int IntKind.i64 0))))]) (.blk 2 (.loop (.ref 7)))) (.ref 9)
def T23n11 : XC := .seq (.seq (.ops [XS.mk (some 19) none (XI.k (XK.fld 4 (Operand.tmp 6))), XS.mk (some 20) none (XI.k (XK.load [CK.int IntKind.i64] false (Operand.tmp 19))), XS.mk (some 21) none (XI.k (XK.cmp BinOp.lss IntKind.i64 (Operand.tmp 20) (Operand.const (Value.int IntKind.i64 (-2147483648))))), XS.mk (some 22) none (XI.k (XK.mov (Operand.tmp 21))), XS.mk (some 23) (some (22, false)) (XI.k (XK.fld 4 (Operand.tmp 6))), XS.mk (some 24) (some (22, false)) (XI.k (XK.load [CK.int IntKind.i64] false (Operand.tmp 23))), XS.mk (some 25) (some (22, false)) (XI.k (XK.cmp BinOp.gtr IntKind.i64 (Operand.tmp 24) (Operand.const (Value.int IntKind.i64 2147483647)))), XS.mk (some 26) none (XI.k (XK.pick (Operand.tmp 22) (Operand.const (Value.bool true)) (Operand.tmp 25)))]) (.cond (Operand.tmp 26) (.ref 1) (.skip))) (.ref 10)
def T23n12 : XC := .seq (.blk 1 (.seq (.ops [XS.mk (some 17) none (XI.k (XK.idx 5 (Operand.tmp 13) (Operand.tmp 15))), XS.mk (some 18) none (XI.k (XK.load [CK.int IntKind.i64, CK.int IntKind.i64, CK.int IntKind.i64, CK.int IntKind.i64, CK.int IntKind.i64] true (Operand.tmp 17))), XS.mk (some 6) none (XI.k (XK.alloc 23 [Value.int IntKind.i64 0, Value.int IntKind.i64 0, Value.int IntKind.i64 0, Value.int IntKind.i64 0, Value.int IntKind.i64 0])), XS.mk none none (XI.k (XK.store 5 (Operand.tmp 6) (Operand.tmp 18)))]) (.ref 11))) (.ops [XS.mk (some 69) none (XI.k (XK.arith BinOp.add IntKind.i64 (Operand.tmp 15) (Operand.const (Value.int IntKind.i64 1)))), XS.mk (some 15) none (XI.k (XK.mov (Operand.tmp 69)))])
def T23n13 : XC := .seq (.cond (Operand.tmp 16) (.skip) (.exit 0)) (.ref 12)
def T23n14 : XC := .seq (.ops [XS.mk (some 16) none (XI.k (XK.cmp BinOp.lss IntKind.i64 (Operand.tmp 15) (Operand.tmp 14)))]) (.ref 13)
def T23n15 : XC := .seq (.ops [XS.mk (some 70) none (XI.k (XK.mov (Operand.tmp 4))), XS.mk (some 2) none (XI.k (XK.mov (Operand.tmp 70))), XS.mk (some 3) none (XI.k (XK.mov (Operand.const (Value.int IntKind.i64 0))))]) (.ret)
def T23n16 : XC := .seq (.seq (.ops [XS.mk (some 13) none (XI.k (XK.mov (Operand.tmp 0))), XS.mk (some 14) none (XI.k (XK.lenS (Operand.tmp 13))), XS.mk (some 15) none (XI.k (XK.mov (Operand.const (Value.int IntKind.i64 0))))]) (.blk 0 (.loop (.ref 14)))) (.ref 15)
def T23n17 : XC := .seq (.ops [XS.mk (some 4) none (XI.k (XK.mov (Operand.const (Value.slice none 0 0))))]) (.ref 16)
def T23n18 : XC := .seq (.seq (.ops [XS.mk (some 10) none (XI.k (XK.mov (Operand.tmp 0))), XS.mk (some 11) none (XI.k (XK.lenS (Operand.tmp 10))), XS.mk (some 12) none (XI.k (XK.cmp BinOp.gtr IntKind.i64 (Operand.tmp 11) (Operand.const (Value.int IntKind.i64 1024))))]) (.cond (Operand.tmp 12) (.ref 0) (.skip))) (.ref 17)
def T23 : Nat → XC
  | 0 => T23n0
  | 1 => T23n1
  | 2 => T23n2
  | 3 => T23n3
  | 4 => T23n4
  | 5 => T23n5
  | 6 => T23n6
  | 7 => T23n7
  | 8 => T23n8
  | 9 => T23n9
  | 10 => T23n10
  | 11 => T23n11
  | 12 => T23n12
  | 13 => T23n13
  | 14 => T23n14
  | 15 => T23n15
  | 16 => T23n16
  | 17 => T23n17
  | 18 => T23n18
  | _ => .skip
theorem t23n0 : T23 0 = T23n0 := rfl
theorem t23n1 : T23 1 = T23n1 := rfl
theorem t23n2 : T23 2 = T23n2 := rfl
theorem t23n3 : T23 3 = T23n3 := rfl
theorem t23n4 : T23 4 = T23n4 := rfl
theorem t23n5 : T23 5 = T23n5 := rfl
theorem t23n6 : T23 6 = T23n6 := rfl
theorem t23n7 : T23 7 = T23n7 := rfl
theorem t23n8 : T23 8 = T23n8 := rfl
theorem t23n9 : T23 9 = T23n9 := rfl
theorem t23n10 : T23 10 = T23n10 := rfl
theorem t23n11 : T23 11 = T23n11 := rfl
theorem t23n12 : T23 12 = T23n12 := rfl
theorem t23n13 : T23 13 = T23n13 := rfl
theorem t23n14 : T23 14 = T23n14 := rfl
theorem t23n15 : T23 15 = T23n15 := rfl
theorem t23n16 : T23 16 = T23n16 := rfl
theorem t23n17 : T23 17 = T23n17 := rfl
theorem t23n18 : T23 18 = T23n18 := rfl
def X23 : XC := .seq (.ops [XS.mk (some 2) none (XI.k (XK.mov (Operand.const (Value.slice none 0 0)))), XS.mk (some 3) none (XI.k (XK.mov (Operand.const (Value.int IntKind.i64 0))))]) (.ref 18)
abbrev K23 : List Nat := [0, 2, 3, 4, 6, 8, 9, 12, 13, 14, 15, 16, 26, 35, 36, 37, 44]
theorem n23 : Tryd.f23.ntmps = 71 := by kernel_rfl
theorem r23 : resT Tryd.f23.results.toList = some [2, 3] := by kernel_rfl
theorem x23 : cmpF Tryd.prog Tryd.f23 = some (expand T23 20 X23) := by kernel_rfl
def T24n0 : XC := .seq (.ops [XS.mk (some 2) none (XI.k (XK.mov (Operand.const (Value.bool false))))]) (.ret)
def T24n1 : XC := .seq (.ops [XS.mk (some 19) none (XI.k (XK.mov (Operand.tmp 4))), XS.mk (some 20) none (XI.k (XK.cmp BinOp.lss IntKind.i64 (Operand.tmp 19) (Operand.const (Value.int IntKind.i64 0)))), XS.mk (some 21) none (XI.k (XK.mov (Operand.tmp 20))), XS.mk (some 22) (some (21, false)) (XI.k (XK.mov (Operand.tmp 4))), XS.mk (some 23) (some (21, false)) (XI.k (XK.cmp BinOp.gtr IntKind.i64 (Operand.tmp 22) (Operand.const (Value.int IntKind.i64 255)))), XS.mk (some 24) none (XI.k (XK.pick (Operand.tmp 21) (Operand.const (Value.bool true)) (Operand.tmp 23)))]) (.cond (Operand.tmp 24) (.ref 0) (.skip))
def T24n2 : XC := .seq (.blk 1 (.seq (.ops [XS.mk (some 17) none (XI.k (XK.idx 1 (Operand.tmp 13) (Operand.tmp 15))), XS.mk (some 18) none (XI.k (XK.load [CK.int IntKind.i64] false (Operand.tmp 17))), XS.mk (some 4) none (XI.k (XK.mov (Operand.tmp 18)))]) (.ref 1))) (.ops [XS.mk (some 25) none (XI.k (XK.arith BinOp.add IntKind.i64 (Operand.tmp 15) (Operand.const (Value.int IntKind.i64 1)))), XS.mk (some 15) none (XI.k (XK.mov (Operand.tmp 25)))])
def T24n3 : XC := .seq (.cond (Operand.tmp 16) (.skip) (.exit 0)) (.ref 2)
def T24n4 : XC := .seq (.ops [XS.mk (some 16) none (XI.k (XK.cmp BinOp.lss IntKind.i64 (Operand.tmp 15) (Operand.tmp 14)))]) (.ref 3)
def T24n5 : XC := .seq (.ops [XS.mk (some 26) none (XI.k (XK.fld 4 (Operand.tmp 1))), XS.mk (some 27) none (XI.k (XK.load [CK.int IntKind.i64] false (Operand.tmp 26))), XS.mk (some 28) none (XI.k (XK.cmp BinOp.geq IntKind.i64 (Operand.tmp 27) (Operand.const (Value.int IntKind.i64 (-2147483648))))), XS.mk (some 29) none (XI.k (XK.mov (Operand.tmp 28))), XS.mk (some 30) (some (29, true)) (XI.k (XK.fld 4 (Operand.tmp 1))), XS.mk (some 31) (some (29, true)) (XI.k (XK.load [CK.int IntKind.i64] false (Operand.tmp 30))), XS.mk (some 32) (some (29, true)) (XI.k (XK.cmp BinOp.lss IntKind.i64 (Operand.tmp 31) (Operand.const (Value.int IntKind.i64 2147483648)))), XS.mk (some 33) none (XI.k (XK.pick (Operand.tmp 29) (Operand.tmp 32) (Operand.const (Value.bool false)))), XS.mk (some 2) none (XI.k (XK.mov (Operand.tmp 33)))]) (.ret)
def T24n6 : XC := .seq (.seq (.ops [XS.mk (some 5) none (XI.k (XK.fld 0 (Operand.tmp 1))), XS.mk (some 6) none (XI.k (XK.load [CK.int IntKind.i64] false (Operand.tmp 5))), XS.mk (some 7) none (XI.k (XK.fld 1 (Operand.tmp 1))), XS.mk (some 8) none (XI.k (XK.load [CK.int IntKind.i64] false (Operand.tmp 7))), XS.mk (some 9) none (XI.k (XK.fld 2 (Operand.tmp 1))), XS.mk (some 10) none (XI.k (XK.load [CK.int IntKind.i64] false (Operand.tmp 9))), XS.mk (some 11) none (XI.k (XK.fld 3 (Operand.tmp 1))), XS.mk (some 12) none (XI.k (XK.load [CK.int IntKind.i64] false (Operand.tmp 11))), XS.mk (some 13) none (XI.k (XK.buildS 3 4 1 [Value.int IntKind.i64 0] [(0, Operand.tmp 6), (1, Operand.tmp 8), (2, Operand.tmp 10), (3, Operand.tmp 12)])), XS.mk (some 14) none (XI.k (XK.lenS (Operand.tmp 13))), XS.mk (some 15) none (XI.k (XK.mov (Operand.const (Value.int IntKind.i64 0))))]) (.blk 0 (.loop (.ref 4)))) (.ref 5)
def T24 : Nat → XC
  | 0 => T24n0
  | 1 => T24n1
  | 2 => T24n2
  | 3 => T24n3
  | 4 => T24n4
  | 5 => T24n5
  | 6 => T24n6
  | _ => .skip
theorem t24n0 : T24 0 = T24n0 := rfl
theorem t24n1 : T24 1 = T24n1 := rfl
theorem t24n2 : T24 2 = T24n2 := rfl
theorem t24n3 : T24 3 = T24n3 := rfl
theorem t24n4 : T24 4 = T24n4 := rfl
theorem t24n5 : T24 5 = T24n5 := rfl
theorem t24n6 : T24 6 = T24n6 := rfl
def X24 : XC := .seq (.ops [XS.mk (some 1) none (XI.k (XK.box 23 5 (Operand.tmp 0))), XS.mk (some 2) none (XI.k (XK.mov (Operand.const (Value.bool false))))]) (.ref 6)
abbrev K24 : List Nat := [0, 1, 2, 4, 13, 14, 15, 16, 24]
theorem n24 : Tryd.f24.ntmps = 34 := by kernel_rfl
theorem r24 : resT Tryd.f24.results.toList = some [2] := by kernel_rfl
theorem x24 : cmpF Tryd.prog Tryd.f24 = some (expand T24 8 X24) := by kernel_rfl
def T43n0 : XC := .seq (.ops [XS.mk (some 3) none (XI.k (XK.mkfn (Fn.func 49) [] [Operand.tmp 1])), XS.mk (some 2) none (XI.k (XK.mov (Operand.tmp 3)))]) (.ret)
def T43 : Nat → XC
  | 0 => T43n0
  | _ => .skip
theorem t43n0 : T43 0 = T43n0 := rfl
def X43 : XC := .seq (.ops [XS.mk (some 1) none (XI.k (XK.box 52 1 (Operand.tmp 0))), XS.mk (some 2) none (XI.k (XK.mov (Operand.const Value.nilFunc)))]) (.ref 0)
abbrev K43 : List Nat := [0, 1, 2]
theorem n43 : Tryd.f43.ntmps = 4 := by kernel_rfl
theorem r43 : resT Tryd.f43.results.toList = some [2] := by kernel_rfl
theorem x43 : cmpF Tryd.prog Tryd.f43 = some (expand T43 2 X43) := by kernel_rfl
def T49n0 : XC := .blk 1 (.ops [XS.mk (some 12) none (XI.k (XK.load [CK.slc] false (Operand.tmp 1))), XS.mk (some 13) none (XI.k (XK.sub 1 (Operand.tmp 12) (some (Operand.const (Value.int IntKind.i64 8))) none)), XS.mk none none (XI.k (XK.store 1 (Operand.tmp 1) (Operand.tmp 13)))])
def T49n1 : XC := .seq (.seq (.ops [XS.mk (some 3) none (XI.k (XK.load [CK.slc] false (Operand.tmp 1))), XS.mk (some 4) none (XI.k (XK.lenS (Operand.tmp 3))), XS.mk (some 5) none (XI.k (XK.cmp BinOp.geq IntKind.i64 (Operand.tmp 4) (Operand.const (Value.int IntKind.i64 8)))), XS.mk (some 6) none (XI.k (XK.mov (Operand.tmp 5))), XS.mk (some 7) (some (6, true)) (XI.k (XK.mov (Operand.tmp 0))), XS.mk (some 8) (some (6, true)) (XI.k (XK.load [CK.slc] false (Operand.tmp 1))), XS.mk (some 9) (some (6, true)) (XI.k (XK.sub 1 (Operand.tmp 8) none (some (Operand.const (Value.int IntKind.i64 8))))), XS.mk (some 10) (some (6, true)) (XI.callv (Operand.tmp 7) [Operand.tmp 9]), XS.mk (some 11) none (XI.k (XK.pick (Operand.tmp 6) (Operand.tmp 10) (Operand.const (Value.bool false))))]) (.cond (Operand.tmp 11) (.skip) (.exit 0))) (.ref 0)
def T49 : Nat → XC
  | 0 => T49n0
  | 1 => T49n1
  | _ => .skip
theorem t49n0 : T49 0 = T49n0 := rfl
theorem t49n1 : T49 1 = T49n1 := rfl
def X49 : XC := .blk 0 (.loop (.ref 1))
abbrev K49 : List Nat := [0, 1, 11]
theorem n49 : Tryd.f49.ntmps = 14 := by kernel_rfl
theorem r49 : resT Tryd.f49.results.toList = some [] := by kernel_rfl
theorem x49 : cmpF Tryd.prog Tryd.f49 = some (expand T49 3 X49) := by kernel_rfl
end Go.Proofs.YtpoopljpodkdcaaDoor
