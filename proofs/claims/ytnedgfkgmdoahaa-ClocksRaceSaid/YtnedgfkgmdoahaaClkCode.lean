/- Printed by program: the small code of functions, and that it is theirs. -/
import Derived.Test.YtnedgfkgmdoahaaSxStill
import Derived.Test.YtnedgfkgmdoahaaProg
import Derived.KernelRfl
set_option linter.unusedSimpArgs false
set_option linter.unusedVariables false
set_option linter.unnecessarySimpa false
namespace Go.Proofs.Ytnedgfkgmdoahaa
open Go Go.Sx
set_option maxRecDepth 100000
def T3n0 : XC := .seq (.ops [XS.mk (some 19) none (XI.k (XK.mov (Operand.tmp 5))), XS.mk (some 4) none (XI.k (XK.mov (Operand.tmp 19)))]) (.ret)
def T3n1 : XC := .seq (.ops [XS.mk (some 38) none (XI.k (XK.mov (Operand.tmp 5))), XS.mk (some 4) none (XI.k (XK.mov (Operand.tmp 38)))]) (.ret)
def T3n2 : XC := .ops [XS.mk (some 71) none (XI.k (XK.mov (Operand.tmp 6))), XS.mk (some 72) none (XI.k (XK.mov (Operand.tmp 8))), XS.mk (some 73) none (XI.k (XK.fld 1 (Operand.tmp 10))), XS.mk (some 74) none (XI.k (XK.load [CK.int IntKind.i64] false (Operand.tmp 73))), XS.mk (some 75) none (XI.k (XK.fld 2 (Operand.tmp 10))), XS.mk (some 76) none (XI.k (XK.load [CK.int IntKind.i64] false (Operand.tmp 75))), XS.mk (some 77) none (XI.k (XK.bits BinOp.and IntKind.i64 (Operand.tmp 76) (Operand.const (Value.int IntKind.i64 255)))), XS.mk (some 78) none (XI.call 16 [Operand.tmp 72, Operand.tmp 74, Operand.tmp 77]), XS.mk (some 79) none (XI.k (XK.buildS 29 1 3 [Value.int IntKind.i64 0, Value.int IntKind.i64 0, Value.int IntKind.i64 0] [(0, Operand.tmp 78)])), XS.mk (some 80) none (XI.k (XK.app 29 3 24 (Operand.tmp 71) (Operand.tmp 79))), XS.mk (some 6) none (XI.k (XK.mov (Operand.tmp 80)))]
def T3n3 : XC := .seq (.ops [XS.mk (some 63) none (XI.k (XK.fld 1 (Operand.tmp 10))), XS.mk (some 64) none (XI.k (XK.load [CK.int IntKind.i64] false (Operand.tmp 63))), XS.mk (some 65) none (XI.k (XK.cmp BinOp.eql IntKind.i64 (Operand.tmp 64) (Operand.const (Value.int IntKind.i64 1)))), XS.mk (some 66) none (XI.k (XK.mov (Operand.tmp 65))), XS.mk (some 67) (some (66, false)) (XI.k (XK.fld 1 (Operand.tmp 10))), XS.mk (some 68) (some (66, false)) (XI.k (XK.load [CK.int IntKind.i64] false (Operand.tmp 67))), XS.mk (some 69) (some (66, false)) (XI.k (XK.cmp BinOp.eql IntKind.i64 (Operand.tmp 68) (Operand.const (Value.int IntKind.i64 2)))), XS.mk (some 70) none (XI.k (XK.pick (Operand.tmp 66) (Operand.const (Value.bool true)) (Operand.tmp 69)))]) (.cond (Operand.tmp 70) (.ref 2) (.skip))
def T3n4 : XC := .seq (.ops [XS.mk (some 55) none (XI.k (XK.mov (Operand.tmp 0))), XS.mk (some 56) none (XI.k (XK.mov (Operand.tmp 7))), XS.mk (some 57) none (XI.k (XK.idx 2 (Operand.tmp 55) (Operand.tmp 56))), XS.mk (some 58) none (XI.k (XK.fld 1 (Operand.tmp 57))), XS.mk (some 59) none (XI.k (XK.load [CK.slc] false (Operand.tmp 58))), XS.mk (some 60) none (XI.k (XK.mov (Operand.tmp 9))), XS.mk (some 61) none (XI.k (XK.idx 3 (Operand.tmp 59) (Operand.tmp 60))), XS.mk (some 62) none (XI.k (XK.load [CK.int IntKind.i64, CK.int IntKind.i64, CK.int IntKind.i64] true (Operand.tmp 61))), XS.mk (some 10) none (XI.k (XK.alloc 29 [Value.int IntKind.i64 0, Value.int IntKind.i64 0, Value.int IntKind.i64 0])), XS.mk none none (XI.k (XK.store 3 (Operand.tmp 10) (Operand.tmp 62)))]) (.ref 3)
def T3n5 : XC := .seq (.blk 3 (.seq (.ops [XS.mk (some 54) none (XI.k (XK.mov (Operand.tmp 52))), XS.mk (some 9) none (XI.k (XK.mov (Operand.tmp 54)))]) (.ref 4))) (.ops [XS.mk (some 81) none (XI.k (XK.arith BinOp.add IntKind.i64 (Operand.tmp 52) (Operand.const (Value.int IntKind.i64 1)))), XS.mk (some 52) none (XI.k (XK.mov (Operand.tmp 81)))])
def T3n6 : XC := .seq (.cond (Operand.tmp 53) (.skip) (.exit 2)) (.ref 5)
def T3n7 : XC := .seq (.ops [XS.mk (some 53) none (XI.k (XK.cmp BinOp.lss IntKind.i64 (Operand.tmp 52) (Operand.tmp 51)))]) (.ref 6)
def T3n8 : XC := .ops [XS.mk (some 82) none (XI.k (XK.mov (Operand.tmp 6))), XS.mk (some 83) none (XI.k (XK.mov (Operand.tmp 8))), XS.mk (some 84) none (XI.k (XK.mov (Operand.tmp 1))), XS.mk (some 85) none (XI.k (XK.conv IntKind.i64 (Operand.tmp 84))), XS.mk (some 86) none (XI.call 16 [Operand.tmp 83, Operand.const (Value.int IntKind.i64 3), Operand.tmp 85]), XS.mk (some 87) none (XI.k (XK.buildS 29 1 3 [Value.int IntKind.i64 0, Value.int IntKind.i64 0, Value.int IntKind.i64 0] [(0, Operand.tmp 86)])), XS.mk (some 88) none (XI.k (XK.app 29 3 24 (Operand.tmp 82) (Operand.tmp 87))), XS.mk (some 6) none (XI.k (XK.mov (Operand.tmp 88)))]
def T3n9 : XC := .seq (.seq (.ops [XS.mk (some 46) none (XI.k (XK.mov (Operand.tmp 0))), XS.mk (some 47) none (XI.k (XK.mov (Operand.tmp 7))), XS.mk (some 48) none (XI.k (XK.idx 2 (Operand.tmp 46) (Operand.tmp 47))), XS.mk (some 49) none (XI.k (XK.fld 1 (Operand.tmp 48))), XS.mk (some 50) none (XI.k (XK.load [CK.slc] false (Operand.tmp 49))), XS.mk (some 51) none (XI.k (XK.lenS (Operand.tmp 50))), XS.mk (some 52) none (XI.k (XK.mov (Operand.const (Value.int IntKind.i64 0))))]) (.blk 2 (.loop (.ref 7)))) (.ref 8)
def T3n10 : XC := .seq (.ops [XS.mk (some 39) none (XI.k (XK.mov (Operand.tmp 6))), XS.mk (some 40) none (XI.k (XK.mov (Operand.tmp 8))), XS.mk (some 41) none (XI.k (XK.mov (Operand.tmp 1))), XS.mk (some 42) none (XI.k (XK.conv IntKind.i64 (Operand.tmp 41))), XS.mk (some 43) none (XI.call 16 [Operand.tmp 40, Operand.const (Value.int IntKind.i64 4), Operand.tmp 42]), XS.mk (some 44) none (XI.k (XK.buildS 29 1 3 [Value.int IntKind.i64 0, Value.int IntKind.i64 0, Value.int IntKind.i64 0] [(0, Operand.tmp 43)])), XS.mk (some 45) none (XI.k (XK.app 29 3 24 (Operand.tmp 39) (Operand.tmp 44))), XS.mk (some 6) none (XI.k (XK.mov (Operand.tmp 45)))]) (.ref 9)
def T3n11 : XC := .seq (.seq (.ops [XS.mk (some 31) none (XI.k (XK.mov (Operand.tmp 0))), XS.mk (some 32) none (XI.k (XK.mov (Operand.tmp 7))), XS.mk (some 33) none (XI.k (XK.idx 2 (Operand.tmp 31) (Operand.tmp 32))), XS.mk (some 34) none (XI.k (XK.fld 1 (Operand.tmp 33))), XS.mk (some 35) none (XI.k (XK.load [CK.slc] false (Operand.tmp 34))), XS.mk (some 36) none (XI.k (XK.lenS (Operand.tmp 35))), XS.mk (some 37) none (XI.k (XK.cmp BinOp.gtr IntKind.i64 (Operand.tmp 36) (Operand.const (Value.int IntKind.i64 8))))]) (.cond (Operand.tmp 37) (.ref 1) (.skip))) (.ref 10)
def T3n12 : XC := .seq (.ops [XS.mk (some 25) none (XI.k (XK.mov (Operand.tmp 0))), XS.mk (some 26) none (XI.k (XK.mov (Operand.tmp 7))), XS.mk (some 27) none (XI.k (XK.idx 2 (Operand.tmp 25) (Operand.tmp 26))), XS.mk (some 28) none (XI.k (XK.fld 0 (Operand.tmp 27))), XS.mk (some 29) none (XI.k (XK.load [CK.int IntKind.i64] false (Operand.tmp 28))), XS.mk (some 30) none (XI.k (XK.bits BinOp.and IntKind.i64 (Operand.tmp 29) (Operand.const (Value.int IntKind.i64 3)))), XS.mk (some 8) none (XI.k (XK.mov (Operand.tmp 30)))]) (.ref 11)
def T3n13 : XC := .seq (.blk 1 (.seq (.ops [XS.mk (some 24) none (XI.k (XK.mov (Operand.tmp 22))), XS.mk (some 7) none (XI.k (XK.mov (Operand.tmp 24)))]) (.ref 12))) (.ops [XS.mk (some 89) none (XI.k (XK.arith BinOp.add IntKind.i64 (Operand.tmp 22) (Operand.const (Value.int IntKind.i64 1)))), XS.mk (some 22) none (XI.k (XK.mov (Operand.tmp 89)))])
def T3n14 : XC := .seq (.cond (Operand.tmp 23) (.skip) (.exit 0)) (.ref 13)
def T3n15 : XC := .seq (.ops [XS.mk (some 23) none (XI.k (XK.cmp BinOp.lss IntKind.i64 (Operand.tmp 22) (Operand.tmp 21)))]) (.ref 14)
def T3n16 : XC := .seq (.ops [XS.mk (some 90) none (XI.k (XK.mov (Operand.tmp 5))), XS.mk (some 91) none (XI.k (XK.mov (Operand.tmp 90))), XS.mk (some 92) (some (91, true)) (XI.k (XK.mov (Operand.tmp 6))), XS.mk (some 93) (some (91, true)) (XI.call 17 [Operand.tmp 92, Operand.const (Value.slice none 0 0)]), XS.mk (some 94) none (XI.k (XK.pick (Operand.tmp 91) (Operand.tmp 93) (Operand.const (Value.bool false)))), XS.mk (some 4) none (XI.k (XK.mov (Operand.tmp 94)))]) (.ret)
def T3n17 : XC := .seq (.seq (.ops [XS.mk (some 20) none (XI.k (XK.mov (Operand.tmp 0))), XS.mk (some 21) none (XI.k (XK.lenS (Operand.tmp 20))), XS.mk (some 22) none (XI.k (XK.mov (Operand.const (Value.int IntKind.i64 0))))]) (.blk 0 (.loop (.ref 15)))) (.ref 16)
def T3n18 : XC := .seq (.ops [XS.mk (some 6) none (XI.k (XK.mov (Operand.const (Value.slice none 0 0))))]) (.ref 17)
def T3n19 : XC := .seq (.seq (.ops [XS.mk (some 12) none (XI.k (XK.mov (Operand.tmp 0))), XS.mk (some 13) none (XI.k (XK.lenS (Operand.tmp 12))), XS.mk (some 14) none (XI.k (XK.cmp BinOp.gtr IntKind.i64 (Operand.tmp 13) (Operand.const (Value.int IntKind.i64 30)))), XS.mk (some 15) none (XI.k (XK.mov (Operand.tmp 14))), XS.mk (some 16) (some (15, false)) (XI.k (XK.mov (Operand.tmp 5))), XS.mk (some 17) (some (15, false)) (XI.k (XK.not (Operand.tmp 16))), XS.mk (some 18) none (XI.k (XK.pick (Operand.tmp 15) (Operand.const (Value.bool true)) (Operand.tmp 17)))]) (.cond (Operand.tmp 18) (.ref 0) (.skip))) (.ref 18)
def T3n20 : XC := .seq (.ops [XS.mk (some 11) none (XI.call 15 []), XS.mk (some 5) none (XI.k (XK.mov (Operand.tmp 11)))]) (.ref 19)
def T3 : Nat → XC
  | 0 => T3n0
  | 1 => T3n1
  | 2 => T3n2
  | 3 => T3n3
  | 4 => T3n4
  | 5 => T3n5
  | 6 => T3n6
  | 7 => T3n7
  | 8 => T3n8
  | 9 => T3n9
  | 10 => T3n10
  | 11 => T3n11
  | 12 => T3n12
  | 13 => T3n13
  | 14 => T3n14
  | 15 => T3n15
  | 16 => T3n16
  | 17 => T3n17
  | 18 => T3n18
  | 19 => T3n19
  | 20 => T3n20
  | _ => .skip
theorem t3n0 : T3 0 = T3n0 := rfl
theorem t3n1 : T3 1 = T3n1 := rfl
theorem t3n2 : T3 2 = T3n2 := rfl
theorem t3n3 : T3 3 = T3n3 := rfl
theorem t3n4 : T3 4 = T3n4 := rfl
theorem t3n5 : T3 5 = T3n5 := rfl
theorem t3n6 : T3 6 = T3n6 := rfl
theorem t3n7 : T3 7 = T3n7 := rfl
theorem t3n8 : T3 8 = T3n8 := rfl
theorem t3n9 : T3 9 = T3n9 := rfl
theorem t3n10 : T3 10 = T3n10 := rfl
theorem t3n11 : T3 11 = T3n11 := rfl
theorem t3n12 : T3 12 = T3n12 := rfl
theorem t3n13 : T3 13 = T3n13 := rfl
theorem t3n14 : T3 14 = T3n14 := rfl
theorem t3n15 : T3 15 = T3n15 := rfl
theorem t3n16 : T3 16 = T3n16 := rfl
theorem t3n17 : T3 17 = T3n17 := rfl
theorem t3n18 : T3 18 = T3n18 := rfl
theorem t3n19 : T3 19 = T3n19 := rfl
theorem t3n20 : T3 20 = T3n20 := rfl
def X3 : XC := .seq (.ops [XS.mk (some 4) none (XI.k (XK.mov (Operand.const (Value.bool false))))]) (.ref 20)
abbrev K3 : List Nat := [0, 1, 4, 5, 6, 7, 8, 9, 10, 18, 21, 22, 23, 37, 51, 52, 53, 70]
theorem n3 : Try.f3.ntmps = 95 := by kernel_rfl
theorem r3 : resT Try.f3.results.toList = some [4] := by kernel_rfl
theorem x3 : cmpF Try.prog Try.f3 = some (expand T3 22 X3) := by kernel_rfl
def T5n0 : XC := .seq (.ops [XS.mk (some 33) none (XI.k (XK.mov (Operand.tmp 5))), XS.mk (some 4) none (XI.k (XK.mov (Operand.tmp 33)))]) (.ret)
def T5n1 : XC := .seq (.ops [XS.mk (some 41) none (XI.k (XK.mov (Operand.tmp 5))), XS.mk (some 42) none (XI.k (XK.mov (Operand.tmp 41))), XS.mk (some 43) (some (42, true)) (XI.k (XK.mov (Operand.tmp 7))), XS.mk (some 44) (some (42, true)) (XI.k (XK.cmp BinOp.eql IntKind.i64 (Operand.tmp 43) (Operand.const (Value.int IntKind.i64 260)))), XS.mk (some 45) none (XI.k (XK.pick (Operand.tmp 42) (Operand.tmp 44) (Operand.const (Value.bool false)))), XS.mk (some 4) none (XI.k (XK.mov (Operand.tmp 45)))]) (.ret)
def T5n2 : XC := .seq (.ops [XS.mk (some 4) none (XI.k (XK.mov (Operand.const (Value.bool false))))]) (.ret)
def T5n3 : XC := .seq (.ops [XS.mk (some 4) none (XI.k (XK.mov (Operand.const (Value.bool false))))]) (.ret)
def T5n4 : XC := .seq (.ops [XS.mk (some 180) none (XI.k (XK.mov (Operand.tmp 5))), XS.mk (some 181) none (XI.k (XK.mov (Operand.tmp 180))), XS.mk (some 182) (some (181, true)) (XI.k (XK.mov (Operand.tmp 8))), XS.mk (some 183) (some (181, true)) (XI.k (XK.mov (Operand.tmp 9))), XS.mk (some 184) (some (181, true)) (XI.k (XK.cmp BinOp.geq IntKind.i64 (Operand.tmp 182) (Operand.tmp 183))), XS.mk (some 185) (some (181, true)) (XI.k (XK.mov (Operand.tmp 184))), XS.mk (some 186) (some (185, false)) (XI.k (XK.mov (Operand.tmp 11))), XS.mk (some 187) (some (181, true)) (XI.k (XK.pick (Operand.tmp 185) (Operand.const (Value.bool true)) (Operand.tmp 186))), XS.mk (some 188) (some (181, true)) (XI.k (XK.mov (Operand.tmp 187))), XS.mk (some 189) (some (188, false)) (XI.k (XK.mov (Operand.tmp 0))), XS.mk (some 190) (some (188, false)) (XI.k (XK.mov (Operand.tmp 8))), XS.mk (some 191) (some (188, false)) (XI.k (XK.idx 3 (Operand.tmp 189) (Operand.tmp 190))), XS.mk (some 192) (some (188, false)) (XI.k (XK.fld 0 (Operand.tmp 191))), XS.mk (some 193) (some (188, false)) (XI.k (XK.load [CK.int IntKind.i64] false (Operand.tmp 192))), XS.mk (some 194) (some (188, false)) (XI.k (XK.mov (Operand.tmp 0))), XS.mk (some 195) (some (188, false)) (XI.k (XK.mov (Operand.tmp 9))), XS.mk (some 196) (some (188, false)) (XI.k (XK.idx 3 (Operand.tmp 194) (Operand.tmp 195))), XS.mk (some 197) (some (188, false)) (XI.k (XK.fld 0 (Operand.tmp 196))), XS.mk (some 198) (some (188, false)) (XI.k (XK.load [CK.int IntKind.i64] false (Operand.tmp 197))), XS.mk (some 199) (some (188, false)) (XI.k (XK.cmp BinOp.neq IntKind.i64 (Operand.tmp 193) (Operand.tmp 198))), XS.mk (some 200) (some (188, false)) (XI.k (XK.mov (Operand.tmp 199))), XS.mk (some 201) (some (200, true)) (XI.k (XK.mov (Operand.tmp 19))), XS.mk (some 202) (some (200, true)) (XI.k (XK.not (Operand.tmp 201))), XS.mk (some 203) (some (188, false)) (XI.k (XK.pick (Operand.tmp 200) (Operand.tmp 202) (Operand.const (Value.bool false)))), XS.mk (some 204) (some (181, true)) (XI.k (XK.pick (Operand.tmp 188) (Operand.const (Value.bool true)) (Operand.tmp 203))), XS.mk (some 205) none (XI.k (XK.pick (Operand.tmp 181) (Operand.tmp 204) (Operand.const (Value.bool false)))), XS.mk (some 4) none (XI.k (XK.mov (Operand.tmp 205)))]) (.ret)
def T5n5 : XC := .seq (.ops [XS.mk (some 153) none (XI.k (XK.mov (Operand.tmp 0))), XS.mk (some 154) none (XI.k (XK.mov (Operand.tmp 8))), XS.mk (some 155) none (XI.k (XK.idx 3 (Operand.tmp 153) (Operand.tmp 154))), XS.mk (some 156) none (XI.k (XK.fld 1 (Operand.tmp 155))), XS.mk (some 157) none (XI.k (XK.load [CK.int IntKind.i64] false (Operand.tmp 156))), XS.mk (some 158) none (XI.k (XK.cmp BinOp.eql IntKind.i64 (Operand.tmp 157) (Operand.const (Value.int IntKind.i64 3)))), XS.mk (some 159) none (XI.k (XK.mov (Operand.tmp 158))), XS.mk (some 160) (some (159, true)) (XI.k (XK.mov (Operand.tmp 0))), XS.mk (some 161) (some (159, true)) (XI.k (XK.mov (Operand.tmp 9))), XS.mk (some 162) (some (159, true)) (XI.k (XK.idx 3 (Operand.tmp 160) (Operand.tmp 161))), XS.mk (some 163) (some (159, true)) (XI.k (XK.fld 1 (Operand.tmp 162))), XS.mk (some 164) (some (159, true)) (XI.k (XK.load [CK.int IntKind.i64] false (Operand.tmp 163))), XS.mk (some 165) (some (159, true)) (XI.k (XK.cmp BinOp.eql IntKind.i64 (Operand.tmp 164) (Operand.const (Value.int IntKind.i64 4)))), XS.mk (some 166) none (XI.k (XK.pick (Operand.tmp 159) (Operand.tmp 165) (Operand.const (Value.bool false)))), XS.mk (some 167) none (XI.k (XK.mov (Operand.tmp 166))), XS.mk (some 168) (some (167, true)) (XI.k (XK.mov (Operand.tmp 0))), XS.mk (some 169) (some (167, true)) (XI.k (XK.mov (Operand.tmp 8))), XS.mk (some 170) (some (167, true)) (XI.k (XK.idx 3 (Operand.tmp 168) (Operand.tmp 169))), XS.mk (some 171) (some (167, true)) (XI.k (XK.fld 2 (Operand.tmp 170))), XS.mk (some 172) (some (167, true)) (XI.k (XK.load [CK.int IntKind.i64] false (Operand.tmp 171))), XS.mk (some 173) (some (167, true)) (XI.k (XK.mov (Operand.tmp 0))), XS.mk (some 174) (some (167, true)) (XI.k (XK.mov (Operand.tmp 9))), XS.mk (some 175) (some (167, true)) (XI.k (XK.idx 3 (Operand.tmp 173) (Operand.tmp 174))), XS.mk (some 176) (some (167, true)) (XI.k (XK.fld 2 (Operand.tmp 175))), XS.mk (some 177) (some (167, true)) (XI.k (XK.load [CK.int IntKind.i64] false (Operand.tmp 176))), XS.mk (some 178) (some (167, true)) (XI.k (XK.cmp BinOp.eql IntKind.i64 (Operand.tmp 172) (Operand.tmp 177))), XS.mk (some 179) none (XI.k (XK.pick (Operand.tmp 167) (Operand.tmp 178) (Operand.const (Value.bool false)))), XS.mk (some 19) none (XI.k (XK.mov (Operand.tmp 179)))]) (.ref 4)
def T5n6 : XC := .seq (.seq (.ops [XS.mk (some 113) none (XI.k (XK.mov (Operand.tmp 11))), XS.mk (some 114) none (XI.k (XK.mov (Operand.tmp 113))), XS.mk (some 115) (some (114, true)) (XI.k (XK.mov (Operand.tmp 17))), XS.mk (some 116) none (XI.k (XK.pick (Operand.tmp 114) (Operand.tmp 115) (Operand.const (Value.bool false)))), XS.mk (some 117) none (XI.k (XK.mov (Operand.tmp 116))), XS.mk (some 118) (some (117, false)) (XI.k (XK.mov (Operand.tmp 11))), XS.mk (some 119) (some (117, false)) (XI.k (XK.mov (Operand.tmp 118))), XS.mk (some 120) (some (119, true)) (XI.k (XK.mov (Operand.tmp 13))), XS.mk (some 121) (some (117, false)) (XI.k (XK.pick (Operand.tmp 119) (Operand.tmp 120) (Operand.const (Value.bool false)))), XS.mk (some 122) (some (117, false)) (XI.k (XK.mov (Operand.tmp 121))), XS.mk (some 123) (some (122, true)) (XI.k (XK.mov (Operand.tmp 15))), XS.mk (some 124) (some (122, true)) (XI.k (XK.not (Operand.tmp 123))), XS.mk (some 125) (some (117, false)) (XI.k (XK.pick (Operand.tmp 122) (Operand.tmp 124) (Operand.const (Value.bool false)))), XS.mk (some 126) none (XI.k (XK.pick (Operand.tmp 117) (Operand.const (Value.bool true)) (Operand.tmp 125))), XS.mk (some 127) none (XI.k (XK.mov (Operand.tmp 126))), XS.mk (some 128) (some (127, false)) (XI.k (XK.mov (Operand.tmp 11))), XS.mk (some 129) (some (127, false)) (XI.k (XK.mov (Operand.tmp 128))), XS.mk (some 130) (some (129, true)) (XI.k (XK.mov (Operand.tmp 8))), XS.mk (some 131) (some (129, true)) (XI.k (XK.mov (Operand.tmp 9))), XS.mk (some 132) (some (129, true)) (XI.k (XK.cmp BinOp.geq IntKind.i64 (Operand.tmp 130) (Operand.tmp 131))), XS.mk (some 133) (some (127, false)) (XI.k (XK.pick (Operand.tmp 129) (Operand.tmp 132) (Operand.const (Value.bool false)))), XS.mk (some 134) none (XI.k (XK.pick (Operand.tmp 127) (Operand.const (Value.bool true)) (Operand.tmp 133))), XS.mk (some 135) none (XI.k (XK.mov (Operand.tmp 134))), XS.mk (some 136) (some (135, false)) (XI.k (XK.mov (Operand.tmp 11))), XS.mk (some 137) (some (135, false)) (XI.k (XK.mov (Operand.tmp 8))), XS.mk (some 138) (some (135, false)) (XI.k (XK.mov (Operand.tmp 9))), XS.mk (some 139) (some (135, false)) (XI.k (XK.cmp BinOp.neq IntKind.i64 (Operand.tmp 137) (Operand.tmp 138))), XS.mk (some 140) (some (135, false)) (XI.k (XK.mov (Operand.tmp 139))), XS.mk (some 141) (some (140, true)) (XI.k (XK.mov (Operand.tmp 6))), XS.mk (some 142) (some (140, true)) (XI.k (XK.mov (Operand.tmp 8))), XS.mk (some 143) (some (140, true)) (XI.k (XK.idx 4 (Operand.tmp 141) (Operand.tmp 142))), XS.mk (some 144) (some (140, true)) (XI.k (XK.load [CK.int IntKind.i64, CK.int IntKind.i64, CK.int IntKind.i64, CK.int IntKind.i64] true (Operand.tmp 143))), XS.mk (some 145) (some (140, true)) (XI.k (XK.mov (Operand.tmp 6))), XS.mk (some 146) (some (140, true)) (XI.k (XK.mov (Operand.tmp 9))), XS.mk (some 147) (some (140, true)) (XI.k (XK.idx 4 (Operand.tmp 145) (Operand.tmp 146))), XS.mk (some 148) (some (140, true)) (XI.k (XK.load [CK.int IntKind.i64, CK.int IntKind.i64, CK.int IntKind.i64, CK.int IntKind.i64] true (Operand.tmp 147))), XS.mk (some 149) (some (140, true)) (XI.call 28 [Operand.tmp 144, Operand.tmp 148]), XS.mk (some 150) (some (135, false)) (XI.k (XK.pick (Operand.tmp 140) (Operand.tmp 149) (Operand.const (Value.bool false)))), XS.mk (some 151) (some (135, false)) (XI.k (XK.eqb true (Operand.tmp 136) (Operand.tmp 150))), XS.mk (some 152) none (XI.k (XK.pick (Operand.tmp 135) (Operand.const (Value.bool true)) (Operand.tmp 151)))]) (.cond (Operand.tmp 152) (.ref 3) (.skip))) (.ref 5)
def T5n7 : XC := .seq (.seq (.ops [XS.mk (some 92) none (XI.k (XK.mov (Operand.tmp 12))), XS.mk (some 93) none (XI.k (XK.cmp BinOp.neq IntKind.i64 (Operand.tmp 92) (Operand.const (Value.int IntKind.i64 0)))), XS.mk (some 94) none (XI.k (XK.mov (Operand.tmp 93))), XS.mk (some 95) (some (94, false)) (XI.k (XK.mov (Operand.tmp 14))), XS.mk (some 96) (some (94, false)) (XI.k (XK.cmp BinOp.neq IntKind.i64 (Operand.tmp 95) (Operand.const (Value.int IntKind.i64 0)))), XS.mk (some 97) none (XI.k (XK.pick (Operand.tmp 94) (Operand.const (Value.bool true)) (Operand.tmp 96))), XS.mk (some 98) none (XI.k (XK.mov (Operand.tmp 97))), XS.mk (some 99) (some (98, false)) (XI.k (XK.mov (Operand.tmp 16))), XS.mk (some 100) (some (98, false)) (XI.k (XK.cmp BinOp.neq IntKind.i64 (Operand.tmp 99) (Operand.const (Value.int IntKind.i64 0)))), XS.mk (some 101) none (XI.k (XK.pick (Operand.tmp 98) (Operand.const (Value.bool true)) (Operand.tmp 100))), XS.mk (some 102) none (XI.k (XK.mov (Operand.tmp 101))), XS.mk (some 103) (some (102, false)) (XI.k (XK.mov (Operand.tmp 18))), XS.mk (some 104) (some (102, false)) (XI.k (XK.cmp BinOp.neq IntKind.i64 (Operand.tmp 103) (Operand.const (Value.int IntKind.i64 0)))), XS.mk (some 105) none (XI.k (XK.pick (Operand.tmp 102) (Operand.const (Value.bool true)) (Operand.tmp 104))), XS.mk (some 106) none (XI.k (XK.mov (Operand.tmp 105))), XS.mk (some 107) (some (106, false)) (XI.k (XK.mov (Operand.tmp 6))), XS.mk (some 108) (some (106, false)) (XI.k (XK.lenS (Operand.tmp 107))), XS.mk (some 109) (some (106, false)) (XI.k (XK.mov (Operand.tmp 0))), XS.mk (some 110) (some (106, false)) (XI.k (XK.lenS (Operand.tmp 109))), XS.mk (some 111) (some (106, false)) (XI.k (XK.cmp BinOp.neq IntKind.i64 (Operand.tmp 108) (Operand.tmp 110))), XS.mk (some 112) none (XI.k (XK.pick (Operand.tmp 106) (Operand.const (Value.bool true)) (Operand.tmp 111)))]) (.cond (Operand.tmp 112) (.ref 2) (.skip))) (.ref 6)
def T5n8 : XC := .seq (.ops [XS.mk (some 86) none (XI.k (XK.mov (Operand.tmp 0))), XS.mk (some 87) none (XI.k (XK.mov (Operand.tmp 9))), XS.mk (some 88) none (XI.k (XK.mov (Operand.tmp 8))), XS.mk (some 89) none (XI.call 25 [Operand.tmp 86, Operand.tmp 87, Operand.tmp 88]), XS.mk (some 85) none (XI.k (XK.mov (Operand.tmp 89))), XS.mk (some 90) none (XI.k (XK.ext (Operand.tmp 85) 0)), XS.mk (some 91) none (XI.k (XK.ext (Operand.tmp 85) 1)), XS.mk (some 17) none (XI.k (XK.mov (Operand.tmp 90))), XS.mk (some 18) none (XI.k (XK.mov (Operand.tmp 91)))]) (.ref 7)
def T5n9 : XC := .seq (.ops [XS.mk (some 79) none (XI.k (XK.mov (Operand.tmp 0))), XS.mk (some 80) none (XI.k (XK.mov (Operand.tmp 8))), XS.mk (some 81) none (XI.k (XK.mov (Operand.tmp 10))), XS.mk (some 82) none (XI.call 25 [Operand.tmp 79, Operand.tmp 80, Operand.tmp 81]), XS.mk (some 78) none (XI.k (XK.mov (Operand.tmp 82))), XS.mk (some 83) none (XI.k (XK.ext (Operand.tmp 78) 0)), XS.mk (some 84) none (XI.k (XK.ext (Operand.tmp 78) 1)), XS.mk (some 15) none (XI.k (XK.mov (Operand.tmp 83))), XS.mk (some 16) none (XI.k (XK.mov (Operand.tmp 84)))]) (.ref 8)
def T5n10 : XC := .seq (.ops [XS.mk (some 72) none (XI.k (XK.mov (Operand.tmp 0))), XS.mk (some 73) none (XI.k (XK.mov (Operand.tmp 9))), XS.mk (some 74) none (XI.k (XK.mov (Operand.tmp 10))), XS.mk (some 75) none (XI.call 25 [Operand.tmp 72, Operand.tmp 73, Operand.tmp 74]), XS.mk (some 71) none (XI.k (XK.mov (Operand.tmp 75))), XS.mk (some 76) none (XI.k (XK.ext (Operand.tmp 71) 0)), XS.mk (some 77) none (XI.k (XK.ext (Operand.tmp 71) 1)), XS.mk (some 13) none (XI.k (XK.mov (Operand.tmp 76))), XS.mk (some 14) none (XI.k (XK.mov (Operand.tmp 77)))]) (.ref 9)
def T5n11 : XC := .seq (.ops [XS.mk (some 65) none (XI.k (XK.mov (Operand.tmp 0))), XS.mk (some 66) none (XI.k (XK.mov (Operand.tmp 8))), XS.mk (some 67) none (XI.k (XK.mov (Operand.tmp 9))), XS.mk (some 68) none (XI.call 25 [Operand.tmp 65, Operand.tmp 66, Operand.tmp 67]), XS.mk (some 64) none (XI.k (XK.mov (Operand.tmp 68))), XS.mk (some 69) none (XI.k (XK.ext (Operand.tmp 64) 0)), XS.mk (some 70) none (XI.k (XK.ext (Operand.tmp 64) 1)), XS.mk (some 11) none (XI.k (XK.mov (Operand.tmp 69))), XS.mk (some 12) none (XI.k (XK.mov (Operand.tmp 70)))]) (.ref 10)
def T5n12 : XC := .seq (.ops [XS.mk (some 46) none (XI.k (XK.idxA 3 1 (Operand.tmp 3) (Operand.const (Value.int IntKind.i64 0)))), XS.mk (some 47) none (XI.k (XK.load [CK.int IntKind.u8] false (Operand.tmp 46))), XS.mk (some 48) none (XI.k (XK.conv IntKind.i64 (Operand.tmp 47))), XS.mk (some 49) none (XI.k (XK.mov (Operand.tmp 0))), XS.mk (some 50) none (XI.k (XK.lenS (Operand.tmp 49))), XS.mk (some 51) none (XI.k (XK.div BinOp.rem IntKind.i64 (Operand.tmp 48) (Operand.tmp 50))), XS.mk (some 52) none (XI.k (XK.idxA 3 1 (Operand.tmp 3) (Operand.const (Value.int IntKind.i64 1)))), XS.mk (some 53) none (XI.k (XK.load [CK.int IntKind.u8] false (Operand.tmp 52))), XS.mk (some 54) none (XI.k (XK.conv IntKind.i64 (Operand.tmp 53))), XS.mk (some 55) none (XI.k (XK.mov (Operand.tmp 0))), XS.mk (some 56) none (XI.k (XK.lenS (Operand.tmp 55))), XS.mk (some 57) none (XI.k (XK.div BinOp.rem IntKind.i64 (Operand.tmp 54) (Operand.tmp 56))), XS.mk (some 58) none (XI.k (XK.idxA 3 1 (Operand.tmp 3) (Operand.const (Value.int IntKind.i64 2)))), XS.mk (some 59) none (XI.k (XK.load [CK.int IntKind.u8] false (Operand.tmp 58))), XS.mk (some 60) none (XI.k (XK.conv IntKind.i64 (Operand.tmp 59))), XS.mk (some 61) none (XI.k (XK.mov (Operand.tmp 0))), XS.mk (some 62) none (XI.k (XK.lenS (Operand.tmp 61))), XS.mk (some 63) none (XI.k (XK.div BinOp.rem IntKind.i64 (Operand.tmp 60) (Operand.tmp 62))), XS.mk (some 8) none (XI.k (XK.mov (Operand.tmp 51))), XS.mk (some 9) none (XI.k (XK.mov (Operand.tmp 57))), XS.mk (some 10) none (XI.k (XK.mov (Operand.tmp 63)))]) (.ref 11)
def T5n13 : XC := .seq (.seq (.ops [XS.mk (some 39) none (XI.k (XK.mov (Operand.tmp 7))), XS.mk (some 40) none (XI.k (XK.cmp BinOp.neq IntKind.i64 (Operand.tmp 39) (Operand.const (Value.int IntKind.i64 0))))]) (.cond (Operand.tmp 40) (.ref 1) (.skip))) (.ref 12)
def T5n14 : XC := .seq (.ops [XS.mk (some 35) none (XI.k (XK.mov (Operand.tmp 0))), XS.mk (some 36) none (XI.call 19 [Operand.tmp 35]), XS.mk (some 34) none (XI.k (XK.mov (Operand.tmp 36))), XS.mk (some 37) none (XI.k (XK.ext (Operand.tmp 34) 0)), XS.mk (some 38) none (XI.k (XK.ext (Operand.tmp 34) 1)), XS.mk (some 6) none (XI.k (XK.mov (Operand.tmp 37))), XS.mk (some 7) none (XI.k (XK.mov (Operand.tmp 38)))]) (.ref 13)
def T5n15 : XC := .seq (.seq (.ops [XS.mk (some 21) none (XI.k (XK.mov (Operand.tmp 0))), XS.mk (some 22) none (XI.k (XK.lenS (Operand.tmp 21))), XS.mk (some 23) none (XI.k (XK.cmp BinOp.lss IntKind.i64 (Operand.tmp 22) (Operand.const (Value.int IntKind.i64 1)))), XS.mk (some 24) none (XI.k (XK.mov (Operand.tmp 23))), XS.mk (some 25) (some (24, false)) (XI.k (XK.mov (Operand.tmp 0))), XS.mk (some 26) (some (24, false)) (XI.k (XK.lenS (Operand.tmp 25))), XS.mk (some 27) (some (24, false)) (XI.k (XK.cmp BinOp.gtr IntKind.i64 (Operand.tmp 26) (Operand.const (Value.int IntKind.i64 60)))), XS.mk (some 28) none (XI.k (XK.pick (Operand.tmp 24) (Operand.const (Value.bool true)) (Operand.tmp 27))), XS.mk (some 29) none (XI.k (XK.mov (Operand.tmp 28))), XS.mk (some 30) (some (29, false)) (XI.k (XK.mov (Operand.tmp 5))), XS.mk (some 31) (some (29, false)) (XI.k (XK.not (Operand.tmp 30))), XS.mk (some 32) none (XI.k (XK.pick (Operand.tmp 29) (Operand.const (Value.bool true)) (Operand.tmp 31)))]) (.cond (Operand.tmp 32) (.ref 0) (.skip))) (.ref 14)
def T5n16 : XC := .seq (.ops [XS.mk (some 20) none (XI.call 15 []), XS.mk (some 5) none (XI.k (XK.mov (Operand.tmp 20)))]) (.ref 15)
def T5 : Nat → XC
  | 0 => T5n0
  | 1 => T5n1
  | 2 => T5n2
  | 3 => T5n3
  | 4 => T5n4
  | 5 => T5n5
  | 6 => T5n6
  | 7 => T5n7
  | 8 => T5n8
  | 9 => T5n9
  | 10 => T5n10
  | 11 => T5n11
  | 12 => T5n12
  | 13 => T5n13
  | 14 => T5n14
  | 15 => T5n15
  | 16 => T5n16
  | _ => .skip
theorem t5n0 : T5 0 = T5n0 := rfl
theorem t5n1 : T5 1 = T5n1 := rfl
theorem t5n2 : T5 2 = T5n2 := rfl
theorem t5n3 : T5 3 = T5n3 := rfl
theorem t5n4 : T5 4 = T5n4 := rfl
theorem t5n5 : T5 5 = T5n5 := rfl
theorem t5n6 : T5 6 = T5n6 := rfl
theorem t5n7 : T5 7 = T5n7 := rfl
theorem t5n8 : T5 8 = T5n8 := rfl
theorem t5n9 : T5 9 = T5n9 := rfl
theorem t5n10 : T5 10 = T5n10 := rfl
theorem t5n11 : T5 11 = T5n11 := rfl
theorem t5n12 : T5 12 = T5n12 := rfl
theorem t5n13 : T5 13 = T5n13 := rfl
theorem t5n14 : T5 14 = T5n14 := rfl
theorem t5n15 : T5 15 = T5n15 := rfl
theorem t5n16 : T5 16 = T5n16 := rfl
def X5 : XC := .seq (.ops [XS.mk (some 3) none (XI.k (XK.box 54 3 (Operand.tmp 1))), XS.mk (some 4) none (XI.k (XK.mov (Operand.const (Value.bool false))))]) (.ref 16)
abbrev K5 : List Nat := [0, 1, 3, 4, 5, 6, 7, 8, 9, 10, 11, 12, 13, 14, 15, 16, 17, 18, 19, 32, 40, 112, 152]
theorem n5 : Try.f5.ntmps = 206 := by kernel_rfl
theorem r5 : resT Try.f5.results.toList = some [4] := by kernel_rfl
theorem x5 : cmpF Try.prog Try.f5 = some (expand T5 18 X5) := by kernel_rfl
def T6n0 : XC := .seq (.ops [XS.mk (some 33) none (XI.k (XK.mov (Operand.tmp 7))), XS.mk (some 6) none (XI.k (XK.mov (Operand.tmp 33)))]) (.ret)
def T6n1 : XC := .seq (.ops [XS.mk (some 41) none (XI.k (XK.mov (Operand.tmp 7))), XS.mk (some 42) none (XI.k (XK.mov (Operand.tmp 41))), XS.mk (some 43) (some (42, true)) (XI.k (XK.mov (Operand.tmp 9))), XS.mk (some 44) (some (42, true)) (XI.k (XK.cmp BinOp.eql IntKind.i64 (Operand.tmp 43) (Operand.const (Value.int IntKind.i64 260)))), XS.mk (some 45) none (XI.k (XK.pick (Operand.tmp 42) (Operand.tmp 44) (Operand.const (Value.bool false)))), XS.mk (some 6) none (XI.k (XK.mov (Operand.tmp 45)))]) (.ret)
def T6n2 : XC := .seq (.ops [XS.mk (some 6) none (XI.k (XK.mov (Operand.const (Value.bool false))))]) (.ret)
def T6n3 : XC := .seq (.ops [XS.mk (some 6) none (XI.k (XK.mov (Operand.const (Value.bool false))))]) (.ret)
def T6n4 : XC := .seq (.ops [XS.mk (some 88) none (XI.k (XK.mov (Operand.tmp 15))), XS.mk (some 89) none (XI.k (XK.cmp BinOp.neq IntKind.i64 (Operand.tmp 88) (Operand.const (Value.int IntKind.i64 0)))), XS.mk (some 90) none (XI.k (XK.mov (Operand.tmp 89))), XS.mk (some 91) (some (90, false)) (XI.k (XK.mov (Operand.tmp 14))), XS.mk (some 92) none (XI.k (XK.pick (Operand.tmp 90) (Operand.const (Value.bool true)) (Operand.tmp 91))), XS.mk (some 93) none (XI.k (XK.mov (Operand.tmp 92))), XS.mk (some 94) (some (93, false)) (XI.k (XK.fld 0 (Operand.tmp 12))), XS.mk (some 95) (some (93, false)) (XI.k (XK.load [CK.int IntKind.i64] false (Operand.tmp 94))), XS.mk (some 96) (some (93, false)) (XI.k (XK.fld 0 (Operand.tmp 13))), XS.mk (some 97) (some (93, false)) (XI.k (XK.load [CK.int IntKind.i64] false (Operand.tmp 96))), XS.mk (some 98) (some (93, false)) (XI.k (XK.cmp BinOp.eql IntKind.i64 (Operand.tmp 95) (Operand.tmp 97))), XS.mk (some 99) none (XI.k (XK.pick (Operand.tmp 93) (Operand.const (Value.bool true)) (Operand.tmp 98))), XS.mk (some 100) none (XI.k (XK.mov (Operand.tmp 99))), XS.mk (some 101) (some (100, false)) (XI.k (XK.fld 2 (Operand.tmp 12))), XS.mk (some 102) (some (100, false)) (XI.k (XK.load [CK.int IntKind.i64] false (Operand.tmp 101))), XS.mk (some 103) (some (100, false)) (XI.k (XK.fld 2 (Operand.tmp 13))), XS.mk (some 104) (some (100, false)) (XI.k (XK.load [CK.int IntKind.i64] false (Operand.tmp 103))), XS.mk (some 105) (some (100, false)) (XI.k (XK.cmp BinOp.neq IntKind.i64 (Operand.tmp 102) (Operand.tmp 104))), XS.mk (some 106) none (XI.k (XK.pick (Operand.tmp 100) (Operand.const (Value.bool true)) (Operand.tmp 105))), XS.mk (some 107) none (XI.k (XK.mov (Operand.tmp 106))), XS.mk (some 108) (some (107, false)) (XI.k (XK.fld 1 (Operand.tmp 12))), XS.mk (some 109) (some (107, false)) (XI.k (XK.load [CK.int IntKind.i64] false (Operand.tmp 108))), XS.mk (some 110) (some (107, false)) (XI.k (XK.cmp BinOp.neq IntKind.i64 (Operand.tmp 109) (Operand.const (Value.int IntKind.i64 2)))), XS.mk (some 111) (some (107, false)) (XI.k (XK.mov (Operand.tmp 110))), XS.mk (some 112) (some (111, true)) (XI.k (XK.fld 1 (Operand.tmp 13))), XS.mk (some 113) (some (111, true)) (XI.k (XK.load [CK.int IntKind.i64] false (Operand.tmp 112))), XS.mk (some 114) (some (111, true)) (XI.k (XK.cmp BinOp.neq IntKind.i64 (Operand.tmp 113) (Operand.const (Value.int IntKind.i64 2)))), XS.mk (some 115) (some (107, false)) (XI.k (XK.pick (Operand.tmp 111) (Operand.tmp 114) (Operand.const (Value.bool false)))), XS.mk (some 116) none (XI.k (XK.pick (Operand.tmp 107) (Operand.const (Value.bool true)) (Operand.tmp 115)))]) (.cond (Operand.tmp 116) (.ref 3) (.skip))
def T6n5 : XC := .seq (.ops [XS.mk (some 80) none (XI.k (XK.mov (Operand.tmp 0))), XS.mk (some 81) none (XI.k (XK.idxA 2 1 (Operand.tmp 11) (Operand.const (Value.int IntKind.i64 0)))), XS.mk (some 82) none (XI.k (XK.load [CK.int IntKind.i64] false (Operand.tmp 81))), XS.mk (some 83) none (XI.k (XK.idxA 2 1 (Operand.tmp 11) (Operand.const (Value.int IntKind.i64 1)))), XS.mk (some 84) none (XI.k (XK.load [CK.int IntKind.i64] false (Operand.tmp 83))), XS.mk (some 85) none (XI.call 25 [Operand.tmp 80, Operand.tmp 82, Operand.tmp 84]), XS.mk (some 79) none (XI.k (XK.mov (Operand.tmp 85))), XS.mk (some 86) none (XI.k (XK.ext (Operand.tmp 79) 0)), XS.mk (some 87) none (XI.k (XK.ext (Operand.tmp 79) 1)), XS.mk (some 14) none (XI.k (XK.mov (Operand.tmp 86))), XS.mk (some 15) none (XI.k (XK.mov (Operand.tmp 87)))]) (.ref 4)
def T6n6 : XC := .seq (.seq (.ops [XS.mk (some 52) none (XI.k (XK.idxA 2 1 (Operand.tmp 11) (Operand.const (Value.int IntKind.i64 0)))), XS.mk (some 53) none (XI.k (XK.load [CK.int IntKind.i64] false (Operand.tmp 52))), XS.mk (some 54) none (XI.k (XK.cmp BinOp.lss IntKind.i64 (Operand.tmp 53) (Operand.const (Value.int IntKind.i64 0)))), XS.mk (some 55) none (XI.k (XK.mov (Operand.tmp 54))), XS.mk (some 56) (some (55, false)) (XI.k (XK.idxA 2 1 (Operand.tmp 11) (Operand.const (Value.int IntKind.i64 1)))), XS.mk (some 57) (some (55, false)) (XI.k (XK.load [CK.int IntKind.i64] false (Operand.tmp 56))), XS.mk (some 58) (some (55, false)) (XI.k (XK.idxA 2 1 (Operand.tmp 11) (Operand.const (Value.int IntKind.i64 0)))), XS.mk (some 59) (some (55, false)) (XI.k (XK.load [CK.int IntKind.i64] false (Operand.tmp 58))), XS.mk (some 60) (some (55, false)) (XI.k (XK.cmp BinOp.leq IntKind.i64 (Operand.tmp 57) (Operand.tmp 59))), XS.mk (some 61) none (XI.k (XK.pick (Operand.tmp 55) (Operand.const (Value.bool true)) (Operand.tmp 60))), XS.mk (some 62) none (XI.k (XK.mov (Operand.tmp 61))), XS.mk (some 63) (some (62, false)) (XI.k (XK.idxA 2 1 (Operand.tmp 11) (Operand.const (Value.int IntKind.i64 1)))), XS.mk (some 64) (some (62, false)) (XI.k (XK.load [CK.int IntKind.i64] false (Operand.tmp 63))), XS.mk (some 65) (some (62, false)) (XI.k (XK.mov (Operand.tmp 0))), XS.mk (some 66) (some (62, false)) (XI.k (XK.lenS (Operand.tmp 65))), XS.mk (some 67) (some (62, false)) (XI.k (XK.cmp BinOp.geq IntKind.i64 (Operand.tmp 64) (Operand.tmp 66))), XS.mk (some 68) none (XI.k (XK.pick (Operand.tmp 62) (Operand.const (Value.bool true)) (Operand.tmp 67)))]) (.cond (Operand.tmp 68) (.ref 2) (.skip))) (.seq (.alt 14 (XT.seq (XS.mk (some 69) none (XI.k (XK.mov (Operand.tmp 0)))) 0 (XT.seq (XS.mk (some 70) none (XI.k (XK.idxA 2 1 (Operand.tmp 11) (Operand.const (Value.int IntKind.i64 0))))) 1 (XT.seq (XS.mk (some 74) none (XI.k (XK.mov (Operand.tmp 0)))) 5 (XT.seq (XS.mk (some 75) none (XI.k (XK.idxA 2 1 (Operand.tmp 11) (Operand.const (Value.int IntKind.i64 1))))) 6 (XT.seq (XS.mk (some 71) none (XI.k (XK.load [CK.int IntKind.i64] false (Operand.tmp 70)))) 2 (XT.seq (XS.mk (some 72) none (XI.k (XK.idx 3 (Operand.tmp 69) (Operand.tmp 71)))) 3 (XT.seq (XS.mk (some 73) none (XI.k (XK.load [CK.int IntKind.i64, CK.int IntKind.i64, CK.int IntKind.i64] true (Operand.tmp 72)))) 4 (XT.seq (XS.mk (some 76) none (XI.k (XK.load [CK.int IntKind.i64] false (Operand.tmp 75)))) 7 (XT.seq (XS.mk (some 77) none (XI.k (XK.idx 3 (Operand.tmp 74) (Operand.tmp 76)))) 8 (XT.seq (XS.mk (some 78) none (XI.k (XK.load [CK.int IntKind.i64, CK.int IntKind.i64, CK.int IntKind.i64] true (Operand.tmp 77)))) 9 (XT.alt (XT.seq (XS.mk (some 12) none (XI.k (XK.alloc 29 [Value.int IntKind.i64 0, Value.int IntKind.i64 0, Value.int IntKind.i64 0]))) 10 (XT.seq (XS.mk (some 13) none (XI.k (XK.alloc 29 [Value.int IntKind.i64 0, Value.int IntKind.i64 0, Value.int IntKind.i64 0]))) 11 (XT.seq (XS.mk none none (XI.k (XK.store 3 (Operand.tmp 12) (Operand.tmp 73)))) 12 (XT.seq (XS.mk none none (XI.still 76 (XK.load [CK.int IntKind.i64] false (Operand.tmp 75)))) 7 (XT.seq (XS.mk none none (XI.still 78 (XK.load [CK.int IntKind.i64, CK.int IntKind.i64, CK.int IntKind.i64] true (Operand.tmp 77)))) 9 (XT.seq (XS.mk none none (XI.k (XK.store 3 (Operand.tmp 13) (Operand.tmp 78)))) 13 XT.done)))))) (XT.seq (XS.mk (some 13) none (XI.k (XK.alloc 29 [Value.int IntKind.i64 0, Value.int IntKind.i64 0, Value.int IntKind.i64 0]))) 11 (XT.seq (XS.mk (some 12) none (XI.k (XK.alloc 29 [Value.int IntKind.i64 0, Value.int IntKind.i64 0, Value.int IntKind.i64 0]))) 10 (XT.seq (XS.mk none none (XI.k (XK.store 3 (Operand.tmp 12) (Operand.tmp 73)))) 12 (XT.seq (XS.mk none none (XI.still 76 (XK.load [CK.int IntKind.i64] false (Operand.tmp 75)))) 7 (XT.seq (XS.mk none none (XI.still 78 (XK.load [CK.int IntKind.i64, CK.int IntKind.i64, CK.int IntKind.i64] true (Operand.tmp 77)))) 9 (XT.seq (XS.mk none none (XI.k (XK.store 3 (Operand.tmp 13) (Operand.tmp 78)))) 13 XT.done)))))))))))))))))) (.ref 5))
def T6n7 : XC := .seq (.blk 1 (.seq (.ops [XS.mk (some 50) none (XI.k (XK.idx 2 (Operand.tmp 46) (Operand.tmp 48))), XS.mk (some 51) none (XI.k (XK.load [CK.int IntKind.i64, CK.int IntKind.i64] true (Operand.tmp 50))), XS.mk (some 11) none (XI.k (XK.alloc 58 [Value.int IntKind.i64 0, Value.int IntKind.i64 0])), XS.mk none none (XI.k (XK.store 2 (Operand.tmp 11) (Operand.tmp 51)))]) (.ref 6))) (.ops [XS.mk (some 117) none (XI.k (XK.arith BinOp.add IntKind.i64 (Operand.tmp 48) (Operand.const (Value.int IntKind.i64 1)))), XS.mk (some 48) none (XI.k (XK.mov (Operand.tmp 117)))])
def T6n8 : XC := .seq (.cond (Operand.tmp 49) (.skip) (.exit 0)) (.ref 7)
def T6n9 : XC := .seq (.ops [XS.mk (some 49) none (XI.k (XK.cmp BinOp.lss IntKind.i64 (Operand.tmp 48) (Operand.tmp 47)))]) (.ref 8)
def T6n10 : XC := .seq (.ops [XS.mk (some 6) none (XI.k (XK.mov (Operand.const (Value.bool false))))]) (.ret)
def T6n11 : XC := .ops [XS.mk (some 170) none (XI.k (XK.mov (Operand.tmp 22))), XS.mk (some 171) none (XI.k (XK.idxA 2 1 (Operand.tmp 21) (Operand.tmp 170))), XS.mk (some 172) none (XI.k (XK.load [CK.int IntKind.i64] false (Operand.tmp 171))), XS.mk (some 173) none (XI.k (XK.arith BinOp.sub IntKind.i64 (Operand.tmp 172) (Operand.const (Value.int IntKind.i64 1)))), XS.mk (some 174) none (XI.k (XK.idxA 2 1 (Operand.tmp 21) (Operand.tmp 170))), XS.mk none none (XI.k (XK.store 1 (Operand.tmp 174) (Operand.tmp 173)))]
def T6n12 : XC := .seq (.ops [XS.mk (some 165) none (XI.k (XK.mov (Operand.tmp 22))), XS.mk (some 166) none (XI.k (XK.idxA 2 1 (Operand.tmp 21) (Operand.tmp 165))), XS.mk (some 167) none (XI.k (XK.load [CK.int IntKind.i64] false (Operand.tmp 166))), XS.mk (some 168) none (XI.k (XK.mov (Operand.tmp 16))), XS.mk (some 169) none (XI.k (XK.cmp BinOp.geq IntKind.i64 (Operand.tmp 167) (Operand.tmp 168)))]) (.cond (Operand.tmp 169) (.ref 11) (.skip))
def T6n13 : XC := .seq (.blk 5 (.seq (.ops [XS.mk (some 164) none (XI.k (XK.mov (Operand.tmp 162))), XS.mk (some 22) none (XI.k (XK.mov (Operand.tmp 164)))]) (.ref 12))) (.ops [XS.mk (some 175) none (XI.k (XK.arith BinOp.add IntKind.i64 (Operand.tmp 162) (Operand.const (Value.int IntKind.i64 1)))), XS.mk (some 162) none (XI.k (XK.mov (Operand.tmp 175)))])
def T6n14 : XC := .seq (.cond (Operand.tmp 163) (.skip) (.exit 4)) (.ref 13)
def T6n15 : XC := .seq (.ops [XS.mk (some 163) none (XI.k (XK.cmp BinOp.lss IntKind.i64 (Operand.tmp 162) (Operand.const (Value.int IntKind.i64 2))))]) (.ref 14)
def T6n16 : XC := .ops [XS.mk (some 181) none (XI.k (XK.mov (Operand.tmp 23))), XS.mk (some 182) none (XI.k (XK.mov (Operand.tmp 181))), XS.mk (some 183) (some (182, false)) (XI.k (XK.mov (Operand.tmp 8))), XS.mk (some 184) (some (182, false)) (XI.k (XK.mov (Operand.tmp 24))), XS.mk (some 185) (some (182, false)) (XI.k (XK.idx 2 (Operand.tmp 183) (Operand.tmp 184))), XS.mk (some 186) (some (182, false)) (XI.k (XK.load [CK.int IntKind.i64, CK.int IntKind.i64] true (Operand.tmp 185))), XS.mk (some 187) (some (182, false)) (XI.k (XK.load [CK.int IntKind.i64, CK.int IntKind.i64] true (Operand.tmp 21))), XS.mk (some 188) (some (182, false)) (XI.k (XK.eqa false [CK.int IntKind.i64, CK.int IntKind.i64] (Operand.tmp 186) (Operand.tmp 187))), XS.mk (some 189) none (XI.k (XK.pick (Operand.tmp 182) (Operand.const (Value.bool true)) (Operand.tmp 188))), XS.mk (some 23) none (XI.k (XK.mov (Operand.tmp 189)))]
def T6n17 : XC := .seq (.blk 7 (.seq (.ops [XS.mk (some 180) none (XI.k (XK.mov (Operand.tmp 178))), XS.mk (some 24) none (XI.k (XK.mov (Operand.tmp 180)))]) (.ref 16))) (.ops [XS.mk (some 190) none (XI.k (XK.arith BinOp.add IntKind.i64 (Operand.tmp 178) (Operand.const (Value.int IntKind.i64 1)))), XS.mk (some 178) none (XI.k (XK.mov (Operand.tmp 190)))])
def T6n18 : XC := .seq (.cond (Operand.tmp 179) (.skip) (.exit 6)) (.ref 17)
def T6n19 : XC := .seq (.ops [XS.mk (some 179) none (XI.k (XK.cmp BinOp.lss IntKind.i64 (Operand.tmp 178) (Operand.tmp 177)))]) (.ref 18)
def T6n20 : XC := .seq (.ops [XS.mk (some 6) none (XI.k (XK.mov (Operand.const (Value.bool false))))]) (.ret)
def T6n21 : XC := .seq (.ops [XS.mk (some 191) none (XI.k (XK.mov (Operand.tmp 23))), XS.mk (some 192) none (XI.k (XK.not (Operand.tmp 191)))]) (.cond (Operand.tmp 192) (.ref 20) (.skip))
def T6n22 : XC := .seq (.seq (.ops [XS.mk (some 176) none (XI.k (XK.mov (Operand.tmp 8))), XS.mk (some 177) none (XI.k (XK.lenS (Operand.tmp 176))), XS.mk (some 178) none (XI.k (XK.mov (Operand.const (Value.int IntKind.i64 0))))]) (.blk 6 (.loop (.ref 19)))) (.ref 21)
def T6n23 : XC := .seq (.ops [XS.mk (some 23) none (XI.k (XK.mov (Operand.const (Value.bool false))))]) (.ref 22)
def T6n24 : XC := .seq (.seq (.ops [XS.mk (some 162) none (XI.k (XK.mov (Operand.const (Value.int IntKind.i64 0))))]) (.blk 4 (.loop (.ref 15)))) (.ref 23)
def T6n25 : XC := .seq (.blk 3 (.seq (.ops [XS.mk (some 160) none (XI.k (XK.idx 2 (Operand.tmp 156) (Operand.tmp 158))), XS.mk (some 161) none (XI.k (XK.load [CK.int IntKind.i64, CK.int IntKind.i64] true (Operand.tmp 160))), XS.mk (some 21) none (XI.k (XK.alloc 58 [Value.int IntKind.i64 0, Value.int IntKind.i64 0])), XS.mk none none (XI.k (XK.store 2 (Operand.tmp 21) (Operand.tmp 161)))]) (.ref 24))) (.ops [XS.mk (some 193) none (XI.k (XK.arith BinOp.add IntKind.i64 (Operand.tmp 158) (Operand.const (Value.int IntKind.i64 1)))), XS.mk (some 158) none (XI.k (XK.mov (Operand.tmp 193)))])
def T6n26 : XC := .seq (.cond (Operand.tmp 159) (.skip) (.exit 2)) (.ref 25)
def T6n27 : XC := .seq (.ops [XS.mk (some 159) none (XI.k (XK.cmp BinOp.lss IntKind.i64 (Operand.tmp 158) (Operand.tmp 157)))]) (.ref 26)
def T6n28 : XC := .seq (.ops [XS.mk (some 194) none (XI.k (XK.mov (Operand.tmp 7))), XS.mk (some 195) none (XI.k (XK.mov (Operand.tmp 194))), XS.mk (some 196) (some (195, true)) (XI.k (XK.mov (Operand.tmp 18))), XS.mk (some 197) (some (195, true)) (XI.k (XK.lenS (Operand.tmp 196))), XS.mk (some 198) (some (195, true)) (XI.k (XK.mov (Operand.tmp 8))), XS.mk (some 199) (some (195, true)) (XI.k (XK.lenS (Operand.tmp 198))), XS.mk (some 200) (some (195, true)) (XI.k (XK.cmp BinOp.leq IntKind.i64 (Operand.tmp 197) (Operand.tmp 199))), XS.mk (some 201) none (XI.k (XK.pick (Operand.tmp 195) (Operand.tmp 200) (Operand.const (Value.bool false)))), XS.mk (some 6) none (XI.k (XK.mov (Operand.tmp 201)))]) (.ret)
def T6n29 : XC := .seq (.seq (.ops [XS.mk (some 156) none (XI.k (XK.mov (Operand.tmp 18))), XS.mk (some 157) none (XI.k (XK.lenS (Operand.tmp 156))), XS.mk (some 158) none (XI.k (XK.mov (Operand.const (Value.int IntKind.i64 0))))]) (.blk 2 (.loop (.ref 27)))) (.ref 28)
def T6n30 : XC := .seq (.seq (.ops [XS.mk (some 154) none (XI.k (XK.mov (Operand.tmp 19))), XS.mk (some 155) none (XI.k (XK.cmp BinOp.neq IntKind.i64 (Operand.tmp 154) (Operand.const (Value.int IntKind.i64 0))))]) (.cond (Operand.tmp 155) (.ref 10) (.skip))) (.ref 29)
def T6n31 : XC := .seq (.ops [XS.mk (some 150) none (XI.k (XK.mov (Operand.tmp 17))), XS.mk (some 151) none (XI.call 21 [Operand.tmp 150]), XS.mk (some 149) none (XI.k (XK.mov (Operand.tmp 151))), XS.mk (some 152) none (XI.k (XK.ext (Operand.tmp 149) 0)), XS.mk (some 153) none (XI.k (XK.ext (Operand.tmp 149) 1)), XS.mk (some 18) none (XI.k (XK.mov (Operand.tmp 152))), XS.mk (some 19) none (XI.k (XK.mov (Operand.tmp 153)))]) (.ref 30)
def T6n32 : XC := .seq (.ops [XS.mk (some 17) none (XI.k (XK.mov (Operand.const (Value.slice none 0 0))))]) (.seq (.alt 13 (XT.seq (XS.mk (some 137) none (XI.k (XK.mov (Operand.tmp 17)))) 0 (XT.seq (XS.mk (some 138) none (XI.k (XK.mov (Operand.tmp 0)))) 1 (XT.seq (XS.mk (some 139) none (XI.k (XK.mov (Operand.tmp 16)))) 2 (XT.seq (XS.mk (some 140) none (XI.k (XK.sub 3 (Operand.tmp 138) none (some (Operand.tmp 139))))) 3 (XT.seq (XS.mk (some 145) none (XI.k (XK.mov (Operand.tmp 0)))) 8 (XT.seq (XS.mk (some 146) none (XI.k (XK.mov (Operand.tmp 16)))) 9 (XT.seq (XS.mk (some 147) none (XI.k (XK.sub 3 (Operand.tmp 145) (some (Operand.tmp 146)) none))) 10 (XT.seq (XS.mk (some 142) none (XI.k (XK.load [CK.int IntKind.i64, CK.int IntKind.i64, CK.int IntKind.i64] true (Operand.tmp 4)))) 5 (XT.alt (XT.seq (XS.mk (some 141) none (XI.k (XK.app 29 3 24 (Operand.tmp 137) (Operand.tmp 140)))) 4 (XT.seq (XS.mk none none (XI.still 142 (XK.load [CK.int IntKind.i64, CK.int IntKind.i64, CK.int IntKind.i64] true (Operand.tmp 4)))) 5 (XT.seq (XS.mk (some 143) none (XI.k (XK.buildS 29 1 3 [Value.int IntKind.i64 0, Value.int IntKind.i64 0, Value.int IntKind.i64 0] [(0, Operand.tmp 142)]))) 6 (XT.seq (XS.mk (some 144) none (XI.k (XK.app 29 3 24 (Operand.tmp 141) (Operand.tmp 143)))) 7 (XT.seq (XS.mk (some 148) none (XI.k (XK.app 29 3 24 (Operand.tmp 144) (Operand.tmp 147)))) 11 (XT.seq (XS.mk (some 17) none (XI.k (XK.mov (Operand.tmp 148)))) 12 XT.done)))))) (XT.seq (XS.mk (some 143) none (XI.k (XK.buildS 29 1 3 [Value.int IntKind.i64 0, Value.int IntKind.i64 0, Value.int IntKind.i64 0] [(0, Operand.tmp 142)]))) 6 (XT.seq (XS.mk (some 141) none (XI.k (XK.app 29 3 24 (Operand.tmp 137) (Operand.tmp 140)))) 4 (XT.seq (XS.mk none none (XI.still 142 (XK.load [CK.int IntKind.i64, CK.int IntKind.i64, CK.int IntKind.i64] true (Operand.tmp 4)))) 5 (XT.seq (XS.mk (some 144) none (XI.k (XK.app 29 3 24 (Operand.tmp 141) (Operand.tmp 143)))) 7 (XT.seq (XS.mk (some 148) none (XI.k (XK.app 29 3 24 (Operand.tmp 144) (Operand.tmp 147)))) 11 (XT.seq (XS.mk (some 17) none (XI.k (XK.mov (Operand.tmp 148)))) 12 XT.done)))))))))))))))) (.ref 31))
def T6n33 : XC := .seq (.ops [XS.mk (some 131) none (XI.k (XK.mov (Operand.tmp 2))), XS.mk (some 132) none (XI.k (XK.conv IntKind.i64 (Operand.tmp 131))), XS.mk (some 133) none (XI.k (XK.mov (Operand.tmp 0))), XS.mk (some 134) none (XI.k (XK.lenS (Operand.tmp 133))), XS.mk (some 135) none (XI.k (XK.arith BinOp.add IntKind.i64 (Operand.tmp 134) (Operand.const (Value.int IntKind.i64 1)))), XS.mk (some 136) none (XI.k (XK.div BinOp.rem IntKind.i64 (Operand.tmp 132) (Operand.tmp 135))), XS.mk (some 16) none (XI.k (XK.mov (Operand.tmp 136)))]) (.ref 32)
def T6n34 : XC := .seq (.ops [XS.mk (some 127) none (XI.k (XK.fld 2 (Operand.tmp 4))), XS.mk (some 128) none (XI.k (XK.load [CK.int IntKind.i64] false (Operand.tmp 127))), XS.mk (some 129) none (XI.k (XK.bits BinOp.and IntKind.i64 (Operand.tmp 128) (Operand.const (Value.int IntKind.i64 255)))), XS.mk (some 130) none (XI.k (XK.fld 2 (Operand.tmp 4))), XS.mk none none (XI.k (XK.store 1 (Operand.tmp 130) (Operand.tmp 129)))]) (.ref 33)
def T6n35 : XC := .seq (.ops [XS.mk (some 122) none (XI.k (XK.fld 1 (Operand.tmp 4))), XS.mk (some 123) none (XI.k (XK.load [CK.int IntKind.i64] false (Operand.tmp 122))), XS.mk (some 124) none (XI.k (XK.bits BinOp.and IntKind.i64 (Operand.tmp 123) (Operand.const (Value.int IntKind.i64 1)))), XS.mk (some 125) none (XI.k (XK.arith BinOp.add IntKind.i64 (Operand.const (Value.int IntKind.i64 3)) (Operand.tmp 124))), XS.mk (some 126) none (XI.k (XK.fld 1 (Operand.tmp 4))), XS.mk none none (XI.k (XK.store 1 (Operand.tmp 126) (Operand.tmp 125)))]) (.ref 34)
def T6n36 : XC := .seq (.ops [XS.mk (some 118) none (XI.k (XK.fld 0 (Operand.tmp 4))), XS.mk (some 119) none (XI.k (XK.load [CK.int IntKind.i64] false (Operand.tmp 118))), XS.mk (some 120) none (XI.k (XK.bits BinOp.and IntKind.i64 (Operand.tmp 119) (Operand.const (Value.int IntKind.i64 3)))), XS.mk (some 121) none (XI.k (XK.fld 0 (Operand.tmp 4))), XS.mk none none (XI.k (XK.store 1 (Operand.tmp 121) (Operand.tmp 120)))]) (.ref 35)
def T6n37 : XC := .seq (.seq (.ops [XS.mk (some 46) none (XI.k (XK.mov (Operand.tmp 8))), XS.mk (some 47) none (XI.k (XK.lenS (Operand.tmp 46))), XS.mk (some 48) none (XI.k (XK.mov (Operand.const (Value.int IntKind.i64 0))))]) (.blk 0 (.loop (.ref 9)))) (.ref 36)
def T6n38 : XC := .seq (.seq (.ops [XS.mk (some 39) none (XI.k (XK.mov (Operand.tmp 9))), XS.mk (some 40) none (XI.k (XK.cmp BinOp.neq IntKind.i64 (Operand.tmp 39) (Operand.const (Value.int IntKind.i64 0))))]) (.cond (Operand.tmp 40) (.ref 1) (.skip))) (.ref 37)
def T6n39 : XC := .seq (.ops [XS.mk (some 35) none (XI.k (XK.mov (Operand.tmp 0))), XS.mk (some 36) none (XI.call 21 [Operand.tmp 35]), XS.mk (some 34) none (XI.k (XK.mov (Operand.tmp 36))), XS.mk (some 37) none (XI.k (XK.ext (Operand.tmp 34) 0)), XS.mk (some 38) none (XI.k (XK.ext (Operand.tmp 34) 1)), XS.mk (some 8) none (XI.k (XK.mov (Operand.tmp 37))), XS.mk (some 9) none (XI.k (XK.mov (Operand.tmp 38)))]) (.ref 38)
def T6n40 : XC := .seq (.seq (.ops [XS.mk (some 26) none (XI.k (XK.mov (Operand.tmp 0))), XS.mk (some 27) none (XI.k (XK.lenS (Operand.tmp 26))), XS.mk (some 28) none (XI.k (XK.cmp BinOp.gtr IntKind.i64 (Operand.tmp 27) (Operand.const (Value.int IntKind.i64 60)))), XS.mk (some 29) none (XI.k (XK.mov (Operand.tmp 28))), XS.mk (some 30) (some (29, false)) (XI.k (XK.mov (Operand.tmp 7))), XS.mk (some 31) (some (29, false)) (XI.k (XK.not (Operand.tmp 30))), XS.mk (some 32) none (XI.k (XK.pick (Operand.tmp 29) (Operand.const (Value.bool true)) (Operand.tmp 31)))]) (.cond (Operand.tmp 32) (.ref 0) (.skip))) (.ref 39)
def T6n41 : XC := .seq (.ops [XS.mk (some 25) none (XI.call 15 []), XS.mk (some 7) none (XI.k (XK.mov (Operand.tmp 25)))]) (.ref 40)
def T6 : Nat → XC
  | 0 => T6n0
  | 1 => T6n1
  | 2 => T6n2
  | 3 => T6n3
  | 4 => T6n4
  | 5 => T6n5
  | 6 => T6n6
  | 7 => T6n7
  | 8 => T6n8
  | 9 => T6n9
  | 10 => T6n10
  | 11 => T6n11
  | 12 => T6n12
  | 13 => T6n13
  | 14 => T6n14
  | 15 => T6n15
  | 16 => T6n16
  | 17 => T6n17
  | 18 => T6n18
  | 19 => T6n19
  | 20 => T6n20
  | 21 => T6n21
  | 22 => T6n22
  | 23 => T6n23
  | 24 => T6n24
  | 25 => T6n25
  | 26 => T6n26
  | 27 => T6n27
  | 28 => T6n28
  | 29 => T6n29
  | 30 => T6n30
  | 31 => T6n31
  | 32 => T6n32
  | 33 => T6n33
  | 34 => T6n34
  | 35 => T6n35
  | 36 => T6n36
  | 37 => T6n37
  | 38 => T6n38
  | 39 => T6n39
  | 40 => T6n40
  | 41 => T6n41
  | _ => .skip
theorem t6n0 : T6 0 = T6n0 := rfl
theorem t6n1 : T6 1 = T6n1 := rfl
theorem t6n2 : T6 2 = T6n2 := rfl
theorem t6n3 : T6 3 = T6n3 := rfl
theorem t6n4 : T6 4 = T6n4 := rfl
theorem t6n5 : T6 5 = T6n5 := rfl
theorem t6n6 : T6 6 = T6n6 := rfl
theorem t6n7 : T6 7 = T6n7 := rfl
theorem t6n8 : T6 8 = T6n8 := rfl
theorem t6n9 : T6 9 = T6n9 := rfl
theorem t6n10 : T6 10 = T6n10 := rfl
theorem t6n11 : T6 11 = T6n11 := rfl
theorem t6n12 : T6 12 = T6n12 := rfl
theorem t6n13 : T6 13 = T6n13 := rfl
theorem t6n14 : T6 14 = T6n14 := rfl
theorem t6n15 : T6 15 = T6n15 := rfl
theorem t6n16 : T6 16 = T6n16 := rfl
theorem t6n17 : T6 17 = T6n17 := rfl
theorem t6n18 : T6 18 = T6n18 := rfl
theorem t6n19 : T6 19 = T6n19 := rfl
theorem t6n20 : T6 20 = T6n20 := rfl
theorem t6n21 : T6 21 = T6n21 := rfl
theorem t6n22 : T6 22 = T6n22 := rfl
theorem t6n23 : T6 23 = T6n23 := rfl
theorem t6n24 : T6 24 = T6n24 := rfl
theorem t6n25 : T6 25 = T6n25 := rfl
theorem t6n26 : T6 26 = T6n26 := rfl
theorem t6n27 : T6 27 = T6n27 := rfl
theorem t6n28 : T6 28 = T6n28 := rfl
theorem t6n29 : T6 29 = T6n29 := rfl
theorem t6n30 : T6 30 = T6n30 := rfl
theorem t6n31 : T6 31 = T6n31 := rfl
theorem t6n32 : T6 32 = T6n32 := rfl
theorem t6n33 : T6 33 = T6n33 := rfl
theorem t6n34 : T6 34 = T6n34 := rfl
theorem t6n35 : T6 35 = T6n35 := rfl
theorem t6n36 : T6 36 = T6n36 := rfl
theorem t6n37 : T6 37 = T6n37 := rfl
theorem t6n38 : T6 38 = T6n38 := rfl
theorem t6n39 : T6 39 = T6n39 := rfl
theorem t6n40 : T6 40 = T6n40 := rfl
theorem t6n41 : T6 41 = T6n41 := rfl
def X6 : XC := .seq (.ops [XS.mk (some 4) none (XI.k (XK.box 29 3 (Operand.tmp 1))), XS.mk (some 6) none (XI.k (XK.mov (Operand.const (Value.bool false))))]) (.ref 41)
abbrev K6 : List Nat := [0, 1, 2, 4, 6, 7, 8, 9, 11, 12, 13, 14, 15, 16, 17, 18, 19, 21, 22, 23, 24, 32, 40, 46, 47, 48, 49, 68, 69, 70, 71, 72, 73, 74, 75, 76, 77, 78, 116, 137, 138, 139, 140, 141, 142, 143, 144, 145, 146, 147, 148, 155, 156, 157, 158, 159, 162, 163, 169, 177, 178, 179, 192]
theorem n6 : Try.f6.ntmps = 202 := by kernel_rfl
theorem r6 : resT Try.f6.results.toList = some [6] := by kernel_rfl
theorem x6 : cmpF Try.prog Try.f6 = some (expand T6 43 X6) := by kernel_rfl
def T7n0 : XC := .seq (.ops [XS.mk (some 20) none (XI.k (XK.mov (Operand.tmp 3))), XS.mk (some 2) none (XI.k (XK.mov (Operand.tmp 20)))]) (.ret)
def T7n1 : XC := .seq (.ops [XS.mk (some 28) none (XI.k (XK.mov (Operand.tmp 3))), XS.mk (some 29) none (XI.k (XK.mov (Operand.tmp 28))), XS.mk (some 30) (some (29, true)) (XI.k (XK.mov (Operand.tmp 5))), XS.mk (some 31) (some (29, true)) (XI.k (XK.cmp BinOp.eql IntKind.i64 (Operand.tmp 30) (Operand.const (Value.int IntKind.i64 260)))), XS.mk (some 32) none (XI.k (XK.pick (Operand.tmp 29) (Operand.tmp 31) (Operand.const (Value.bool false)))), XS.mk (some 2) none (XI.k (XK.mov (Operand.tmp 32)))]) (.ret)
def T7n2 : XC := .seq (.ops [XS.mk (some 2) none (XI.k (XK.mov (Operand.const (Value.bool false))))]) (.ret)
def T7n3 : XC := .seq (.ops [XS.mk (some 2) none (XI.k (XK.mov (Operand.const (Value.bool false))))]) (.ret)
def T7n4 : XC := .ops [XS.mk (some 68) none (XI.k (XK.mov (Operand.tmp 0))), XS.mk (some 69) none (XI.k (XK.mov (Operand.tmp 9))), XS.mk (some 70) none (XI.k (XK.idx 3 (Operand.tmp 68) (Operand.tmp 69))), XS.mk (some 71) none (XI.k (XK.fld 0 (Operand.tmp 70))), XS.mk (some 72) none (XI.k (XK.load [CK.int IntKind.i64] false (Operand.tmp 71))), XS.mk (some 73) none (XI.k (XK.idxA 4 1 (Operand.tmp 8) (Operand.tmp 72))), XS.mk (some 74) none (XI.k (XK.load [CK.int IntKind.i64] false (Operand.tmp 73))), XS.mk (some 75) none (XI.k (XK.arith BinOp.add IntKind.i64 (Operand.tmp 74) (Operand.const (Value.int IntKind.i64 1)))), XS.mk (some 76) none (XI.k (XK.idxA 4 1 (Operand.tmp 8) (Operand.tmp 72))), XS.mk none none (XI.k (XK.store 1 (Operand.tmp 76) (Operand.tmp 75)))]
def T7n5 : XC := .seq (.ops [XS.mk (some 67) none (XI.k (XK.mov (Operand.tmp 10)))]) (.cond (Operand.tmp 67) (.ref 4) (.skip))
def T7n6 : XC := .seq (.seq (.ops [XS.mk (some 65) none (XI.k (XK.mov (Operand.tmp 11))), XS.mk (some 66) none (XI.k (XK.cmp BinOp.neq IntKind.i64 (Operand.tmp 65) (Operand.const (Value.int IntKind.i64 0))))]) (.cond (Operand.tmp 66) (.ref 3) (.skip))) (.ref 5)
def T7n7 : XC := .ops [XS.mk (some 56) none (XI.k (XK.mov (Operand.tmp 9))), XS.mk (some 57) none (XI.k (XK.arith BinOp.add IntKind.i64 (Operand.tmp 56) (Operand.const (Value.int IntKind.i64 1)))), XS.mk (some 9) none (XI.k (XK.mov (Operand.tmp 57)))]
def T7n8 : XC := .seq (.blk 3 (.seq (.ops [XS.mk (some 59) none (XI.k (XK.mov (Operand.tmp 0))), XS.mk (some 60) none (XI.k (XK.mov (Operand.tmp 9))), XS.mk (some 61) none (XI.k (XK.mov (Operand.tmp 7))), XS.mk (some 62) none (XI.call 25 [Operand.tmp 59, Operand.tmp 60, Operand.tmp 61]), XS.mk (some 58) none (XI.k (XK.mov (Operand.tmp 62))), XS.mk (some 63) none (XI.k (XK.ext (Operand.tmp 58) 0)), XS.mk (some 64) none (XI.k (XK.ext (Operand.tmp 58) 1)), XS.mk (some 10) none (XI.k (XK.mov (Operand.tmp 63))), XS.mk (some 11) none (XI.k (XK.mov (Operand.tmp 64)))]) (.ref 6))) (.ref 7)
def T7n9 : XC := .seq (.seq (.ops [XS.mk (some 53) none (XI.k (XK.mov (Operand.tmp 9))), XS.mk (some 54) none (XI.k (XK.mov (Operand.tmp 7))), XS.mk (some 55) none (XI.k (XK.cmp BinOp.lss IntKind.i64 (Operand.tmp 53) (Operand.tmp 54)))]) (.cond (Operand.tmp 55) (.skip) (.exit 2))) (.ref 8)
def T7n10 : XC := .seq (.ops [XS.mk (some 2) none (XI.k (XK.mov (Operand.const (Value.bool false))))]) (.ret)
def T7n11 : XC := .seq (.ops [XS.mk (some 85) none (XI.k (XK.mov (Operand.tmp 4))), XS.mk (some 86) none (XI.k (XK.mov (Operand.tmp 7))), XS.mk (some 87) none (XI.k (XK.idx 4 (Operand.tmp 85) (Operand.tmp 86))), XS.mk (some 88) none (XI.k (XK.load [CK.int IntKind.i64, CK.int IntKind.i64, CK.int IntKind.i64, CK.int IntKind.i64] true (Operand.tmp 87))), XS.mk (some 89) none (XI.k (XK.load [CK.int IntKind.i64, CK.int IntKind.i64, CK.int IntKind.i64, CK.int IntKind.i64] true (Operand.tmp 8))), XS.mk (some 90) none (XI.k (XK.eqa true [CK.int IntKind.i64, CK.int IntKind.i64, CK.int IntKind.i64, CK.int IntKind.i64] (Operand.tmp 88) (Operand.tmp 89))), XS.mk (some 91) none (XI.k (XK.mov (Operand.tmp 90))), XS.mk (some 92) (some (91, false)) (XI.k (XK.mov (Operand.tmp 4))), XS.mk (some 93) (some (91, false)) (XI.k (XK.mov (Operand.tmp 7))), XS.mk (some 94) (some (91, false)) (XI.k (XK.mov (Operand.tmp 0))), XS.mk (some 95) (some (91, false)) (XI.k (XK.mov (Operand.tmp 7))), XS.mk (some 96) (some (91, false)) (XI.k (XK.idx 3 (Operand.tmp 94) (Operand.tmp 95))), XS.mk (some 97) (some (91, false)) (XI.k (XK.fld 0 (Operand.tmp 96))), XS.mk (some 98) (some (91, false)) (XI.k (XK.load [CK.int IntKind.i64] false (Operand.tmp 97))), XS.mk (some 99) (some (91, false)) (XI.k (XK.idx 4 (Operand.tmp 92) (Operand.tmp 93))), XS.mk (some 100) (some (91, false)) (XI.k (XK.idxA 4 1 (Operand.tmp 99) (Operand.tmp 98))), XS.mk (some 101) (some (91, false)) (XI.k (XK.load [CK.int IntKind.i64] false (Operand.tmp 100))), XS.mk (some 102) (some (91, false)) (XI.k (XK.mov (Operand.tmp 6))), XS.mk (some 103) (some (91, false)) (XI.k (XK.mov (Operand.tmp 0))), XS.mk (some 104) (some (91, false)) (XI.k (XK.mov (Operand.tmp 7))), XS.mk (some 105) (some (91, false)) (XI.k (XK.idx 3 (Operand.tmp 103) (Operand.tmp 104))), XS.mk (some 106) (some (91, false)) (XI.k (XK.fld 0 (Operand.tmp 105))), XS.mk (some 107) (some (91, false)) (XI.k (XK.load [CK.int IntKind.i64] false (Operand.tmp 106))), XS.mk (some 108) (some (91, false)) (XI.k (XK.lkup (CK.int IntKind.i64) (Value.int IntKind.i64 0) false (Operand.tmp 102) (Operand.tmp 107))), XS.mk (some 109) (some (91, false)) (XI.k (XK.cmp BinOp.neq IntKind.i64 (Operand.tmp 101) (Operand.tmp 108))), XS.mk (some 110) none (XI.k (XK.pick (Operand.tmp 91) (Operand.const (Value.bool true)) (Operand.tmp 109)))]) (.cond (Operand.tmp 110) (.ref 10) (.skip))
def T7n12 : XC := .seq (.ops [XS.mk (some 77) none (XI.k (XK.mov (Operand.tmp 6))), XS.mk (some 78) none (XI.k (XK.mov (Operand.tmp 0))), XS.mk (some 79) none (XI.k (XK.mov (Operand.tmp 7))), XS.mk (some 80) none (XI.k (XK.idx 3 (Operand.tmp 78) (Operand.tmp 79))), XS.mk (some 81) none (XI.k (XK.fld 0 (Operand.tmp 80))), XS.mk (some 82) none (XI.k (XK.load [CK.int IntKind.i64] false (Operand.tmp 81))), XS.mk (some 83) none (XI.k (XK.lkup (CK.int IntKind.i64) (Value.int IntKind.i64 0) false (Operand.tmp 77) (Operand.tmp 82))), XS.mk (some 84) none (XI.k (XK.arith BinOp.add IntKind.i64 (Operand.tmp 83) (Operand.const (Value.int IntKind.i64 1)))), XS.mk none none (XI.k (XK.mupd (CK.int IntKind.i64) (Operand.tmp 77) (Operand.tmp 82) (Operand.tmp 84)))]) (.ref 11)
def T7n13 : XC := .seq (.seq (.ops [XS.mk (some 9) none (XI.k (XK.mov (Operand.const (Value.int IntKind.i64 0))))]) (.blk 2 (.loop (.ref 9)))) (.ref 12)
def T7n14 : XC := .seq (.ops [XS.mk (some 44) none (XI.k (XK.mov (Operand.tmp 0))), XS.mk (some 45) none (XI.k (XK.mov (Operand.tmp 7))), XS.mk (some 46) none (XI.k (XK.idx 3 (Operand.tmp 44) (Operand.tmp 45))), XS.mk (some 47) none (XI.k (XK.fld 0 (Operand.tmp 46))), XS.mk (some 48) none (XI.k (XK.load [CK.int IntKind.i64] false (Operand.tmp 47))), XS.mk (some 49) none (XI.k (XK.idxA 4 1 (Operand.tmp 8) (Operand.tmp 48))), XS.mk (some 50) none (XI.k (XK.load [CK.int IntKind.i64] false (Operand.tmp 49))), XS.mk (some 51) none (XI.k (XK.arith BinOp.add IntKind.i64 (Operand.tmp 50) (Operand.const (Value.int IntKind.i64 1)))), XS.mk (some 52) none (XI.k (XK.idxA 4 1 (Operand.tmp 8) (Operand.tmp 48))), XS.mk none none (XI.k (XK.store 1 (Operand.tmp 52) (Operand.tmp 51)))]) (.ref 13)
def T7n15 : XC := .seq (.ops [XS.mk (some 8) none (XI.k (XK.alloc 56 [Value.int IntKind.i64 0, Value.int IntKind.i64 0, Value.int IntKind.i64 0, Value.int IntKind.i64 0]))]) (.ref 14)
def T7n16 : XC := .seq (.blk 1 (.seq (.ops [XS.mk (some 43) none (XI.k (XK.mov (Operand.tmp 41))), XS.mk (some 7) none (XI.k (XK.mov (Operand.tmp 43)))]) (.ref 15))) (.ops [XS.mk (some 111) none (XI.k (XK.arith BinOp.add IntKind.i64 (Operand.tmp 41) (Operand.const (Value.int IntKind.i64 1)))), XS.mk (some 41) none (XI.k (XK.mov (Operand.tmp 111)))])
def T7n17 : XC := .seq (.cond (Operand.tmp 42) (.skip) (.exit 0)) (.ref 16)
def T7n18 : XC := .seq (.ops [XS.mk (some 42) none (XI.k (XK.cmp BinOp.lss IntKind.i64 (Operand.tmp 41) (Operand.tmp 40)))]) (.ref 17)
def T7n19 : XC := .seq (.ops [XS.mk (some 112) none (XI.k (XK.mov (Operand.tmp 3))), XS.mk (some 2) none (XI.k (XK.mov (Operand.tmp 112)))]) (.ret)
def T7n20 : XC := .seq (.seq (.ops [XS.mk (some 39) none (XI.k (XK.mov (Operand.tmp 0))), XS.mk (some 40) none (XI.k (XK.lenS (Operand.tmp 39))), XS.mk (some 41) none (XI.k (XK.mov (Operand.const (Value.int IntKind.i64 0))))]) (.blk 0 (.loop (.ref 18)))) (.ref 19)
def T7n21 : XC := .seq (.ops [XS.mk (some 38) none (XI.k XK.mkmap), XS.mk (some 6) none (XI.k (XK.mov (Operand.tmp 38)))]) (.ref 20)
def T7n22 : XC := .seq (.seq (.ops [XS.mk (some 33) none (XI.k (XK.mov (Operand.tmp 4))), XS.mk (some 34) none (XI.k (XK.lenS (Operand.tmp 33))), XS.mk (some 35) none (XI.k (XK.mov (Operand.tmp 0))), XS.mk (some 36) none (XI.k (XK.lenS (Operand.tmp 35))), XS.mk (some 37) none (XI.k (XK.cmp BinOp.neq IntKind.i64 (Operand.tmp 34) (Operand.tmp 36)))]) (.cond (Operand.tmp 37) (.ref 2) (.skip))) (.ref 21)
def T7n23 : XC := .seq (.seq (.ops [XS.mk (some 26) none (XI.k (XK.mov (Operand.tmp 5))), XS.mk (some 27) none (XI.k (XK.cmp BinOp.neq IntKind.i64 (Operand.tmp 26) (Operand.const (Value.int IntKind.i64 0))))]) (.cond (Operand.tmp 27) (.ref 1) (.skip))) (.ref 22)
def T7n24 : XC := .seq (.ops [XS.mk (some 22) none (XI.k (XK.mov (Operand.tmp 0))), XS.mk (some 23) none (XI.call 19 [Operand.tmp 22]), XS.mk (some 21) none (XI.k (XK.mov (Operand.tmp 23))), XS.mk (some 24) none (XI.k (XK.ext (Operand.tmp 21) 0)), XS.mk (some 25) none (XI.k (XK.ext (Operand.tmp 21) 1)), XS.mk (some 4) none (XI.k (XK.mov (Operand.tmp 24))), XS.mk (some 5) none (XI.k (XK.mov (Operand.tmp 25)))]) (.ref 23)
def T7n25 : XC := .seq (.seq (.ops [XS.mk (some 13) none (XI.k (XK.mov (Operand.tmp 0))), XS.mk (some 14) none (XI.k (XK.lenS (Operand.tmp 13))), XS.mk (some 15) none (XI.k (XK.cmp BinOp.gtr IntKind.i64 (Operand.tmp 14) (Operand.const (Value.int IntKind.i64 60)))), XS.mk (some 16) none (XI.k (XK.mov (Operand.tmp 15))), XS.mk (some 17) (some (16, false)) (XI.k (XK.mov (Operand.tmp 3))), XS.mk (some 18) (some (16, false)) (XI.k (XK.not (Operand.tmp 17))), XS.mk (some 19) none (XI.k (XK.pick (Operand.tmp 16) (Operand.const (Value.bool true)) (Operand.tmp 18)))]) (.cond (Operand.tmp 19) (.ref 0) (.skip))) (.ref 24)
def T7n26 : XC := .seq (.ops [XS.mk (some 12) none (XI.call 15 []), XS.mk (some 3) none (XI.k (XK.mov (Operand.tmp 12)))]) (.ref 25)
def T7 : Nat → XC
  | 0 => T7n0
  | 1 => T7n1
  | 2 => T7n2
  | 3 => T7n3
  | 4 => T7n4
  | 5 => T7n5
  | 6 => T7n6
  | 7 => T7n7
  | 8 => T7n8
  | 9 => T7n9
  | 10 => T7n10
  | 11 => T7n11
  | 12 => T7n12
  | 13 => T7n13
  | 14 => T7n14
  | 15 => T7n15
  | 16 => T7n16
  | 17 => T7n17
  | 18 => T7n18
  | 19 => T7n19
  | 20 => T7n20
  | 21 => T7n21
  | 22 => T7n22
  | 23 => T7n23
  | 24 => T7n24
  | 25 => T7n25
  | 26 => T7n26
  | _ => .skip
theorem t7n0 : T7 0 = T7n0 := rfl
theorem t7n1 : T7 1 = T7n1 := rfl
theorem t7n2 : T7 2 = T7n2 := rfl
theorem t7n3 : T7 3 = T7n3 := rfl
theorem t7n4 : T7 4 = T7n4 := rfl
theorem t7n5 : T7 5 = T7n5 := rfl
theorem t7n6 : T7 6 = T7n6 := rfl
theorem t7n7 : T7 7 = T7n7 := rfl
theorem t7n8 : T7 8 = T7n8 := rfl
theorem t7n9 : T7 9 = T7n9 := rfl
theorem t7n10 : T7 10 = T7n10 := rfl
theorem t7n11 : T7 11 = T7n11 := rfl
theorem t7n12 : T7 12 = T7n12 := rfl
theorem t7n13 : T7 13 = T7n13 := rfl
theorem t7n14 : T7 14 = T7n14 := rfl
theorem t7n15 : T7 15 = T7n15 := rfl
theorem t7n16 : T7 16 = T7n16 := rfl
theorem t7n17 : T7 17 = T7n17 := rfl
theorem t7n18 : T7 18 = T7n18 := rfl
theorem t7n19 : T7 19 = T7n19 := rfl
theorem t7n20 : T7 20 = T7n20 := rfl
theorem t7n21 : T7 21 = T7n21 := rfl
theorem t7n22 : T7 22 = T7n22 := rfl
theorem t7n23 : T7 23 = T7n23 := rfl
theorem t7n24 : T7 24 = T7n24 := rfl
theorem t7n25 : T7 25 = T7n25 := rfl
theorem t7n26 : T7 26 = T7n26 := rfl
def X7 : XC := .seq (.ops [XS.mk (some 2) none (XI.k (XK.mov (Operand.const (Value.bool false))))]) (.ref 26)
abbrev K7 : List Nat := [0, 2, 3, 4, 5, 6, 7, 8, 9, 10, 11, 19, 27, 37, 40, 41, 42, 55, 66, 67, 110]
theorem n7 : Try.f7.ntmps = 113 := by kernel_rfl
theorem r7 : resT Try.f7.results.toList = some [2] := by kernel_rfl
theorem x7 : cmpF Try.prog Try.f7 = some (expand T7 28 X7) := by kernel_rfl
def T16n0 : XC := .seq (.ops [XS.mk (some 7) none (XI.k (XK.mov (Operand.tmp 0))), XS.mk (some 8) none (XI.k (XK.mov (Operand.tmp 1))), XS.mk (some 9) none (XI.k (XK.mov (Operand.tmp 2))), XS.mk (some 10) none (XI.k (XK.build [Value.int IntKind.i64 0, Value.int IntKind.i64 0, Value.int IntKind.i64 0] [(0, 1, Operand.tmp 7), (1, 1, Operand.tmp 8), (2, 1, Operand.tmp 9)])), XS.mk none none (XI.k (XK.store 3 (Operand.tmp 6) (Operand.tmp 10)))]) (.ret)
def T16 : Nat → XC
  | 0 => T16n0
  | _ => .skip
theorem t16n0 : T16 0 = T16n0 := rfl
def X16 : XC := .seq (.ops [XS.mk (some 6) none (XI.k (XK.alloc 29 [Value.int IntKind.i64 0, Value.int IntKind.i64 0, Value.int IntKind.i64 0]))]) (.ref 0)
abbrev K16 : List Nat := [0, 1, 2, 6]
theorem n16 : Try.f16.ntmps = 11 := by kernel_rfl
theorem r16 : rvOf Try.prog Try.f16.results.toList = some [RV.cell 6 3 true] := by kernel_rfl
theorem x16 : cmpF Try.prog Try.f16 = some (expand T16 2 X16) := by kernel_rfl
def T17n0 : XC := .seq (.ops [XS.mk (some 4) none (XI.k (XK.mov (Operand.const (Value.bool false))))]) (.ret)
def T17n1 : XC := .seq (.ops [XS.mk (some 4) none (XI.k (XK.mov (Operand.const (Value.bool false))))]) (.ret)
def T17n2 : XC := .seq (.ops [XS.mk (some 27) none (XI.k (XK.mov (Operand.tmp 5))), XS.mk (some 28) none (XI.k (XK.mov (Operand.tmp 7))), XS.mk (some 29) none (XI.k (XK.idx 2 (Operand.tmp 27) (Operand.tmp 28))), XS.mk (some 30) none (XI.k (XK.load [CK.int IntKind.i64, CK.int IntKind.i64] true (Operand.tmp 29))), XS.mk (some 31) none (XI.k (XK.mov (Operand.tmp 1))), XS.mk (some 32) none (XI.k (XK.mov (Operand.tmp 7))), XS.mk (some 33) none (XI.k (XK.idx 2 (Operand.tmp 31) (Operand.tmp 32))), XS.mk (some 34) none (XI.k (XK.load [CK.int IntKind.i64, CK.int IntKind.i64] true (Operand.tmp 33))), XS.mk (some 35) none (XI.k (XK.eqa true [CK.int IntKind.i64, CK.int IntKind.i64] (Operand.tmp 30) (Operand.tmp 34)))]) (.cond (Operand.tmp 35) (.ref 1) (.skip))
def T17n3 : XC := .seq (.blk 1 (.seq (.ops [XS.mk (some 26) none (XI.k (XK.mov (Operand.tmp 24))), XS.mk (some 7) none (XI.k (XK.mov (Operand.tmp 26)))]) (.ref 2))) (.ops [XS.mk (some 36) none (XI.k (XK.arith BinOp.add IntKind.i64 (Operand.tmp 24) (Operand.const (Value.int IntKind.i64 1)))), XS.mk (some 24) none (XI.k (XK.mov (Operand.tmp 36)))])
def T17n4 : XC := .seq (.cond (Operand.tmp 25) (.skip) (.exit 0)) (.ref 3)
def T17n5 : XC := .seq (.ops [XS.mk (some 25) none (XI.k (XK.cmp BinOp.lss IntKind.i64 (Operand.tmp 24) (Operand.tmp 23)))]) (.ref 4)
def T17n6 : XC := .seq (.ops [XS.mk (some 4) none (XI.k (XK.mov (Operand.const (Value.bool true))))]) (.ret)
def T17n7 : XC := .seq (.seq (.ops [XS.mk (some 22) none (XI.k (XK.mov (Operand.tmp 5))), XS.mk (some 23) none (XI.k (XK.lenS (Operand.tmp 22))), XS.mk (some 24) none (XI.k (XK.mov (Operand.const (Value.int IntKind.i64 0))))]) (.blk 0 (.loop (.ref 5)))) (.ref 6)
def T17n8 : XC := .seq (.seq (.ops [XS.mk (some 13) none (XI.k (XK.mov (Operand.tmp 6))), XS.mk (some 14) none (XI.k (XK.cmp BinOp.neq IntKind.i64 (Operand.tmp 13) (Operand.const (Value.int IntKind.i64 0)))), XS.mk (some 15) none (XI.k (XK.mov (Operand.tmp 14))), XS.mk (some 16) (some (15, false)) (XI.k (XK.mov (Operand.tmp 5))), XS.mk (some 17) (some (15, false)) (XI.k (XK.lenS (Operand.tmp 16))), XS.mk (some 18) (some (15, false)) (XI.k (XK.mov (Operand.tmp 1))), XS.mk (some 19) (some (15, false)) (XI.k (XK.lenS (Operand.tmp 18))), XS.mk (some 20) (some (15, false)) (XI.k (XK.cmp BinOp.neq IntKind.i64 (Operand.tmp 17) (Operand.tmp 19))), XS.mk (some 21) none (XI.k (XK.pick (Operand.tmp 15) (Operand.const (Value.bool true)) (Operand.tmp 20)))]) (.cond (Operand.tmp 21) (.ref 0) (.skip))) (.ref 7)
def T17n9 : XC := .seq (.ops [XS.mk (some 9) none (XI.k (XK.mov (Operand.tmp 0))), XS.mk (some 10) none (XI.call 21 [Operand.tmp 9]), XS.mk (some 8) none (XI.k (XK.mov (Operand.tmp 10))), XS.mk (some 11) none (XI.k (XK.ext (Operand.tmp 8) 0)), XS.mk (some 12) none (XI.k (XK.ext (Operand.tmp 8) 1)), XS.mk (some 5) none (XI.k (XK.mov (Operand.tmp 11))), XS.mk (some 6) none (XI.k (XK.mov (Operand.tmp 12)))]) (.ref 8)
def T17 : Nat → XC
  | 0 => T17n0
  | 1 => T17n1
  | 2 => T17n2
  | 3 => T17n3
  | 4 => T17n4
  | 5 => T17n5
  | 6 => T17n6
  | 7 => T17n7
  | 8 => T17n8
  | 9 => T17n9
  | _ => .skip
theorem t17n0 : T17 0 = T17n0 := rfl
theorem t17n1 : T17 1 = T17n1 := rfl
theorem t17n2 : T17 2 = T17n2 := rfl
theorem t17n3 : T17 3 = T17n3 := rfl
theorem t17n4 : T17 4 = T17n4 := rfl
theorem t17n5 : T17 5 = T17n5 := rfl
theorem t17n6 : T17 6 = T17n6 := rfl
theorem t17n7 : T17 7 = T17n7 := rfl
theorem t17n8 : T17 8 = T17n8 := rfl
theorem t17n9 : T17 9 = T17n9 := rfl
def X17 : XC := .seq (.ops [XS.mk (some 4) none (XI.k (XK.mov (Operand.const (Value.bool false))))]) (.ref 9)
abbrev K17 : List Nat := [0, 1, 4, 5, 6, 7, 21, 23, 24, 25, 35]
theorem n17 : Try.f17.ntmps = 37 := by kernel_rfl
theorem r17 : resT Try.f17.results.toList = some [4] := by kernel_rfl
theorem x17 : cmpF Try.prog Try.f17 = some (expand T17 11 X17) := by kernel_rfl
def T19n0 : XC := .seq (.ops [XS.mk (some 15) none (XI.k (XK.mov (Operand.tmp 4))), XS.mk (some 2) none (XI.k (XK.mov (Operand.const (Value.slice none 0 0)))), XS.mk (some 3) none (XI.k (XK.mov (Operand.tmp 15)))]) (.ret)
def T19n1 : XC := .seq (.ops [XS.mk (some 13) none (XI.k (XK.mov (Operand.tmp 4))), XS.mk (some 14) none (XI.k (XK.cmp BinOp.neq IntKind.i64 (Operand.tmp 13) (Operand.const (Value.int IntKind.i64 0))))]) (.cond (Operand.tmp 14) (.ref 0) (.skip))
def T19n2 : XC := .ops [XS.mk (some 39) none (XI.k (XK.mov (Operand.tmp 10))), XS.mk (some 40) none (XI.k (XK.mov (Operand.tmp 10))), XS.mk (some 41) none (XI.k (XK.nilc (Operand.tmp 40))), XS.mk (some 42) none (XI.k (XK.load [CK.int IntKind.i64, CK.int IntKind.i64, CK.int IntKind.i64, CK.int IntKind.i64] true (Operand.tmp 41))), XS.mk (some 43) none (XI.k (XK.mov (Operand.tmp 6))), XS.mk (some 44) none (XI.k (XK.fld 2 (Operand.tmp 9))), XS.mk (some 45) none (XI.k (XK.load [CK.int IntKind.i64] false (Operand.tmp 44))), XS.mk (some 46) none (XI.k (XK.lkup (CK.int IntKind.i64) (Value.agg (Array.mk [Value.int IntKind.i64 0, Value.int IntKind.i64 0, Value.int IntKind.i64 0, Value.int IntKind.i64 0])) false (Operand.tmp 43) (Operand.tmp 45))), XS.mk (some 47) none (XI.call 48 [Operand.tmp 42, Operand.tmp 46]), XS.mk (some 48) none (XI.k (XK.nilc (Operand.tmp 39))), XS.mk none none (XI.k (XK.store 4 (Operand.tmp 48) (Operand.tmp 47)))]
def T19n3 : XC := .ops [XS.mk (some 51) none (XI.k (XK.mov (Operand.tmp 6))), XS.mk (some 52) none (XI.k (XK.fld 2 (Operand.tmp 9))), XS.mk (some 53) none (XI.k (XK.load [CK.int IntKind.i64] false (Operand.tmp 52))), XS.mk (some 54) none (XI.k (XK.mov (Operand.tmp 6))), XS.mk (some 55) none (XI.k (XK.fld 2 (Operand.tmp 9))), XS.mk (some 56) none (XI.k (XK.load [CK.int IntKind.i64] false (Operand.tmp 55))), XS.mk (some 57) none (XI.k (XK.lkup (CK.int IntKind.i64) (Value.agg (Array.mk [Value.int IntKind.i64 0, Value.int IntKind.i64 0, Value.int IntKind.i64 0, Value.int IntKind.i64 0])) false (Operand.tmp 54) (Operand.tmp 56))), XS.mk (some 58) none (XI.k (XK.mov (Operand.tmp 10))), XS.mk (some 59) none (XI.k (XK.nilc (Operand.tmp 58))), XS.mk (some 60) none (XI.k (XK.load [CK.int IntKind.i64, CK.int IntKind.i64, CK.int IntKind.i64, CK.int IntKind.i64] true (Operand.tmp 59))), XS.mk (some 61) none (XI.call 48 [Operand.tmp 57, Operand.tmp 60]), XS.mk none none (XI.still 53 (XK.load [CK.int IntKind.i64] false (Operand.tmp 52))), XS.mk none none (XI.k (XK.mupd (CK.int IntKind.i64) (Operand.tmp 51) (Operand.tmp 53) (Operand.tmp 61)))]
def T19n4 : XC := .seq (.ops [XS.mk (some 50) none (XI.k (XK.cmp BinOp.eql IntKind.i64 (Operand.tmp 36) (Operand.const (Value.int IntKind.i64 3)))), XS.mk (some 49) none (XI.k (XK.mov (Operand.tmp 50)))]) (.cond (Operand.tmp 49) (.ref 3) (.skip))
def T19n5 : XC := .blk 2 (.seq (.ops [XS.mk (some 38) none (XI.k (XK.cmp BinOp.eql IntKind.i64 (Operand.tmp 36) (Operand.const (Value.int IntKind.i64 4)))), XS.mk (some 37) none (XI.k (XK.mov (Operand.tmp 38)))]) (.cond (Operand.tmp 37) (.ref 2) (.ref 4)))
def T19n6 : XC := .ops [XS.mk (some 62) none (XI.k (XK.mov (Operand.tmp 7))), XS.mk (some 63) none (XI.k (XK.mov (Operand.tmp 10))), XS.mk (some 64) none (XI.k (XK.nilc (Operand.tmp 63))), XS.mk (some 65) none (XI.k (XK.load [CK.int IntKind.i64, CK.int IntKind.i64, CK.int IntKind.i64, CK.int IntKind.i64] true (Operand.tmp 64))), XS.mk (some 66) none (XI.k (XK.buildS 56 1 4 [Value.int IntKind.i64 0, Value.int IntKind.i64 0, Value.int IntKind.i64 0, Value.int IntKind.i64 0] [(0, Operand.tmp 65)])), XS.mk (some 67) none (XI.k (XK.app 56 4 32 (Operand.tmp 62) (Operand.tmp 66))), XS.mk (some 7) none (XI.k (XK.mov (Operand.tmp 67)))]
def T19n7 : XC := .seq (.seq (.ops [XS.mk (some 35) none (XI.k (XK.fld 1 (Operand.tmp 9))), XS.mk (some 36) none (XI.k (XK.load [CK.int IntKind.i64] false (Operand.tmp 35)))]) (.ref 5)) (.ref 6)
def T19n8 : XC := .seq (.ops [XS.mk (some 26) none (XI.k (XK.mov (Operand.tmp 10))), XS.mk (some 27) none (XI.k (XK.fld 0 (Operand.tmp 9))), XS.mk (some 28) none (XI.k (XK.load [CK.int IntKind.i64] false (Operand.tmp 27))), XS.mk (some 29) none (XI.k (XK.nilc (Operand.tmp 26))), XS.mk (some 30) none (XI.k (XK.idxA 4 1 (Operand.tmp 29) (Operand.tmp 28))), XS.mk (some 31) none (XI.k (XK.load [CK.int IntKind.i64] false (Operand.tmp 30))), XS.mk (some 32) none (XI.k (XK.arith BinOp.add IntKind.i64 (Operand.tmp 31) (Operand.const (Value.int IntKind.i64 1)))), XS.mk (some 33) none (XI.k (XK.nilc (Operand.tmp 26))), XS.mk (some 34) none (XI.k (XK.idxA 4 1 (Operand.tmp 33) (Operand.tmp 28))), XS.mk none none (XI.k (XK.store 1 (Operand.tmp 34) (Operand.tmp 32)))]) (.ref 7)
def T19n9 : XC := .seq (.ops [XS.mk (some 23) none (XI.k (XK.fld 0 (Operand.tmp 9))), XS.mk (some 24) none (XI.k (XK.load [CK.int IntKind.i64] false (Operand.tmp 23))), XS.mk (some 25) none (XI.k (XK.idxA 4 4 (Operand.tmp 5) (Operand.tmp 24))), XS.mk (some 10) none (XI.k (XK.mov (Operand.tmp 25)))]) (.ref 8)
def T19n10 : XC := .seq (.blk 1 (.seq (.ops [XS.mk (some 21) none (XI.k (XK.idx 3 (Operand.tmp 17) (Operand.tmp 19))), XS.mk (some 22) none (XI.k (XK.load [CK.int IntKind.i64, CK.int IntKind.i64, CK.int IntKind.i64] true (Operand.tmp 21))), XS.mk (some 9) none (XI.k (XK.alloc 29 [Value.int IntKind.i64 0, Value.int IntKind.i64 0, Value.int IntKind.i64 0])), XS.mk none none (XI.k (XK.store 3 (Operand.tmp 9) (Operand.tmp 22)))]) (.ref 9))) (.ops [XS.mk (some 68) none (XI.k (XK.arith BinOp.add IntKind.i64 (Operand.tmp 19) (Operand.const (Value.int IntKind.i64 1)))), XS.mk (some 19) none (XI.k (XK.mov (Operand.tmp 68)))])
def T19n11 : XC := .seq (.cond (Operand.tmp 20) (.skip) (.exit 0)) (.ref 10)
def T19n12 : XC := .seq (.ops [XS.mk (some 20) none (XI.k (XK.cmp BinOp.lss IntKind.i64 (Operand.tmp 19) (Operand.tmp 18)))]) (.ref 11)
def T19n13 : XC := .seq (.ops [XS.mk (some 69) none (XI.k (XK.mov (Operand.tmp 7))), XS.mk (some 2) none (XI.k (XK.mov (Operand.tmp 69))), XS.mk (some 3) none (XI.k (XK.mov (Operand.const (Value.int IntKind.i64 0))))]) (.ret)
def T19n14 : XC := .seq (.seq (.ops [XS.mk (some 17) none (XI.k (XK.mov (Operand.tmp 0))), XS.mk (some 18) none (XI.k (XK.lenS (Operand.tmp 17))), XS.mk (some 19) none (XI.k (XK.mov (Operand.const (Value.int IntKind.i64 0))))]) (.blk 0 (.loop (.ref 12)))) (.ref 13)
def T19n15 : XC := .seq (.ops [XS.mk (some 7) none (XI.k (XK.mov (Operand.const (Value.slice none 0 0))))]) (.ref 14)
def T19n16 : XC := .seq (.ops [XS.mk (some 16) none (XI.k XK.mkmap), XS.mk (some 6) none (XI.k (XK.mov (Operand.tmp 16)))]) (.ref 15)
def T19n17 : XC := .seq (.ops [XS.mk (some 5) none (XI.k (XK.alloc 112 [Value.int IntKind.i64 0, Value.int IntKind.i64 0, Value.int IntKind.i64 0, Value.int IntKind.i64 0, Value.int IntKind.i64 0, Value.int IntKind.i64 0, Value.int IntKind.i64 0, Value.int IntKind.i64 0, Value.int IntKind.i64 0, Value.int IntKind.i64 0, Value.int IntKind.i64 0, Value.int IntKind.i64 0, Value.int IntKind.i64 0, Value.int IntKind.i64 0, Value.int IntKind.i64 0, Value.int IntKind.i64 0]))]) (.ref 16)
def T19n18 : XC := .seq (.seq (.ops [XS.mk (some 11) none (XI.k (XK.mov (Operand.tmp 0))), XS.mk (some 12) none (XI.call 50 [Operand.tmp 11]), XS.mk (some 4) none (XI.k (XK.mov (Operand.tmp 12)))]) (.ref 1)) (.ref 17)
def T19 : Nat → XC
  | 0 => T19n0
  | 1 => T19n1
  | 2 => T19n2
  | 3 => T19n3
  | 4 => T19n4
  | 5 => T19n5
  | 6 => T19n6
  | 7 => T19n7
  | 8 => T19n8
  | 9 => T19n9
  | 10 => T19n10
  | 11 => T19n11
  | 12 => T19n12
  | 13 => T19n13
  | 14 => T19n14
  | 15 => T19n15
  | 16 => T19n16
  | 17 => T19n17
  | 18 => T19n18
  | _ => .skip
theorem t19n0 : T19 0 = T19n0 := rfl
theorem t19n1 : T19 1 = T19n1 := rfl
theorem t19n2 : T19 2 = T19n2 := rfl
theorem t19n3 : T19 3 = T19n3 := rfl
theorem t19n4 : T19 4 = T19n4 := rfl
theorem t19n5 : T19 5 = T19n5 := rfl
theorem t19n6 : T19 6 = T19n6 := rfl
theorem t19n7 : T19 7 = T19n7 := rfl
theorem t19n8 : T19 8 = T19n8 := rfl
theorem t19n9 : T19 9 = T19n9 := rfl
theorem t19n10 : T19 10 = T19n10 := rfl
theorem t19n11 : T19 11 = T19n11 := rfl
theorem t19n12 : T19 12 = T19n12 := rfl
theorem t19n13 : T19 13 = T19n13 := rfl
theorem t19n14 : T19 14 = T19n14 := rfl
theorem t19n15 : T19 15 = T19n15 := rfl
theorem t19n16 : T19 16 = T19n16 := rfl
theorem t19n17 : T19 17 = T19n17 := rfl
theorem t19n18 : T19 18 = T19n18 := rfl
def X19 : XC := .seq (.ops [XS.mk (some 2) none (XI.k (XK.mov (Operand.const (Value.slice none 0 0)))), XS.mk (some 3) none (XI.k (XK.mov (Operand.const (Value.int IntKind.i64 0))))]) (.ref 18)
abbrev K19 : List Nat := [0, 2, 3, 4, 5, 6, 7, 9, 10, 14, 17, 18, 19, 20, 36, 37, 49]
theorem n19 : Try.f19.ntmps = 70 := by kernel_rfl
theorem r19 : resT Try.f19.results.toList = some [2, 3] := by kernel_rfl
theorem x19 : cmpF Try.prog Try.f19 = some (expand T19 20 X19) := by kernel_rfl
def T21n0 : XC := .seq (.ops [XS.mk (some 19) none (XI.k (XK.mov (Operand.tmp 5))), XS.mk (some 2) none (XI.k (XK.mov (Operand.const (Value.slice none 0 0)))), XS.mk (some 3) none (XI.k (XK.mov (Operand.tmp 19)))]) (.ret)
def T21n1 : XC := .seq (.ops [XS.mk (some 7) none (XI.k (XK.mov (Operand.tmp 23)))]) (.ops [XS.mk (some 8) none (XI.k (XK.mov (Operand.tmp 24)))])
def T21n2 : XC := .ops [XS.mk (some 73) none (XI.k (XK.load [CK.slc] false (Operand.tmp 6))), XS.mk (some 74) none (XI.k (XK.mov (Operand.tmp 7))), XS.mk (some 75) none (XI.k (XK.mov (Operand.tmp 8))), XS.mk (some 76) none (XI.k (XK.build [Value.int IntKind.i64 0, Value.int IntKind.i64 0] [(0, 1, Operand.tmp 74), (1, 1, Operand.tmp 75)])), XS.mk (some 77) none (XI.k (XK.buildS 58 1 2 [Value.int IntKind.i64 0, Value.int IntKind.i64 0] [(0, Operand.tmp 76)])), XS.mk (some 78) none (XI.k (XK.app 58 2 16 (Operand.tmp 73) (Operand.tmp 77))), XS.mk none none (XI.k (XK.store 1 (Operand.tmp 6) (Operand.tmp 78)))]
def T21n3 : XC := .seq (.seq (.ops [XS.mk (some 41) none (XI.k (XK.mov (Operand.tmp 11))), XS.mk (some 42) none (XI.k (XK.not (Operand.tmp 41))), XS.mk (some 43) none (XI.k (XK.mov (Operand.tmp 42))), XS.mk (some 44) (some (43, false)) (XI.k (XK.fld 2 (Operand.tmp 9))), XS.mk (some 45) (some (43, false)) (XI.k (XK.load [CK.int IntKind.i64] false (Operand.tmp 44))), XS.mk (some 46) (some (43, false)) (XI.k (XK.fld 2 (Operand.tmp 10))), XS.mk (some 47) (some (43, false)) (XI.k (XK.load [CK.int IntKind.i64] false (Operand.tmp 46))), XS.mk (some 48) (some (43, false)) (XI.k (XK.cmp BinOp.neq IntKind.i64 (Operand.tmp 45) (Operand.tmp 47))), XS.mk (some 49) none (XI.k (XK.pick (Operand.tmp 43) (Operand.const (Value.bool true)) (Operand.tmp 48))), XS.mk (some 50) none (XI.k (XK.mov (Operand.tmp 49))), XS.mk (some 51) (some (50, false)) (XI.k (XK.fld 0 (Operand.tmp 9))), XS.mk (some 52) (some (50, false)) (XI.k (XK.load [CK.int IntKind.i64] false (Operand.tmp 51))), XS.mk (some 53) (some (50, false)) (XI.k (XK.fld 0 (Operand.tmp 10))), XS.mk (some 54) (some (50, false)) (XI.k (XK.load [CK.int IntKind.i64] false (Operand.tmp 53))), XS.mk (some 55) (some (50, false)) (XI.k (XK.cmp BinOp.eql IntKind.i64 (Operand.tmp 52) (Operand.tmp 54))), XS.mk (some 56) none (XI.k (XK.pick (Operand.tmp 50) (Operand.const (Value.bool true)) (Operand.tmp 55))), XS.mk (some 57) none (XI.k (XK.mov (Operand.tmp 56))), XS.mk (some 58) (some (57, false)) (XI.k (XK.fld 1 (Operand.tmp 9))), XS.mk (some 59) (some (57, false)) (XI.k (XK.load [CK.int IntKind.i64] false (Operand.tmp 58))), XS.mk (some 60) (some (57, false)) (XI.k (XK.cmp BinOp.eql IntKind.i64 (Operand.tmp 59) (Operand.const (Value.int IntKind.i64 1)))), XS.mk (some 61) (some (57, false)) (XI.k (XK.mov (Operand.tmp 60))), XS.mk (some 62) (some (61, true)) (XI.k (XK.fld 1 (Operand.tmp 10))), XS.mk (some 63) (some (61, true)) (XI.k (XK.load [CK.int IntKind.i64] false (Operand.tmp 62))), XS.mk (some 64) (some (61, true)) (XI.k (XK.cmp BinOp.eql IntKind.i64 (Operand.tmp 63) (Operand.const (Value.int IntKind.i64 1)))), XS.mk (some 65) (some (57, false)) (XI.k (XK.pick (Operand.tmp 61) (Operand.tmp 64) (Operand.const (Value.bool false)))), XS.mk (some 66) none (XI.k (XK.pick (Operand.tmp 57) (Operand.const (Value.bool true)) (Operand.tmp 65))), XS.mk (some 67) none (XI.k (XK.mov (Operand.tmp 66))), XS.mk (some 68) (some (67, false)) (XI.k (XK.load [CK.slc] false (Operand.tmp 4))), XS.mk (some 69) (some (67, false)) (XI.k (XK.mov (Operand.tmp 7))), XS.mk (some 70) (some (67, false)) (XI.k (XK.mov (Operand.tmp 8))), XS.mk (some 71) (some (67, false)) (XI.call 53 [Operand.tmp 68, Operand.tmp 69, Operand.tmp 70]), XS.mk (some 72) none (XI.k (XK.pick (Operand.tmp 67) (Operand.const (Value.bool true)) (Operand.tmp 71)))]) (.cond (Operand.tmp 72) (.exit 1) (.skip))) (.ref 2)
def T21n4 : XC := .seq (.ops [XS.mk (some 33) none (XI.k (XK.fld 1 (Operand.tmp 9))), XS.mk (some 34) none (XI.k (XK.load [CK.int IntKind.i64] false (Operand.tmp 33))), XS.mk (some 35) none (XI.k (XK.cmp BinOp.leq IntKind.i64 (Operand.tmp 34) (Operand.const (Value.int IntKind.i64 2)))), XS.mk (some 36) none (XI.k (XK.mov (Operand.tmp 35))), XS.mk (some 37) (some (36, true)) (XI.k (XK.fld 1 (Operand.tmp 10))), XS.mk (some 38) (some (36, true)) (XI.k (XK.load [CK.int IntKind.i64] false (Operand.tmp 37))), XS.mk (some 39) (some (36, true)) (XI.k (XK.cmp BinOp.leq IntKind.i64 (Operand.tmp 38) (Operand.const (Value.int IntKind.i64 2)))), XS.mk (some 40) none (XI.k (XK.pick (Operand.tmp 36) (Operand.tmp 39) (Operand.const (Value.bool false)))), XS.mk (some 11) none (XI.k (XK.mov (Operand.tmp 40)))]) (.ref 3)
def T21n5 : XC := .blk 1 (.seq (.alt 12 (XT.seq (XS.mk (some 26) none (XI.k (XK.mov (Operand.tmp 7)))) 1 (XT.seq (XS.mk (some 30) none (XI.k (XK.mov (Operand.tmp 8)))) 5 (XT.seq (XS.mk (some 25) none (XI.k (XK.load [CK.slc] false (Operand.tmp 1)))) 0 (XT.seq (XS.mk (some 27) none (XI.k (XK.idx 3 (Operand.tmp 25) (Operand.tmp 26)))) 2 (XT.seq (XS.mk (some 28) none (XI.k (XK.load [CK.int IntKind.i64, CK.int IntKind.i64, CK.int IntKind.i64] true (Operand.tmp 27)))) 3 (XT.seq (XS.mk (some 29) none (XI.k (XK.load [CK.slc] false (Operand.tmp 1)))) 4 (XT.seq (XS.mk (some 31) none (XI.k (XK.idx 3 (Operand.tmp 29) (Operand.tmp 30)))) 6 (XT.seq (XS.mk (some 32) none (XI.k (XK.load [CK.int IntKind.i64, CK.int IntKind.i64, CK.int IntKind.i64] true (Operand.tmp 31)))) 7 (XT.alt (XT.seq (XS.mk (some 9) none (XI.k (XK.alloc 29 [Value.int IntKind.i64 0, Value.int IntKind.i64 0, Value.int IntKind.i64 0]))) 8 (XT.seq (XS.mk (some 10) none (XI.k (XK.alloc 29 [Value.int IntKind.i64 0, Value.int IntKind.i64 0, Value.int IntKind.i64 0]))) 9 (XT.seq (XS.mk none none (XI.k (XK.store 3 (Operand.tmp 9) (Operand.tmp 28)))) 10 (XT.seq (XS.mk none none (XI.still 29 (XK.load [CK.slc] false (Operand.tmp 1)))) 4 (XT.seq (XS.mk none none (XI.still 32 (XK.load [CK.int IntKind.i64, CK.int IntKind.i64, CK.int IntKind.i64] true (Operand.tmp 31)))) 7 (XT.seq (XS.mk none none (XI.k (XK.store 3 (Operand.tmp 10) (Operand.tmp 32)))) 11 XT.done)))))) (XT.seq (XS.mk (some 10) none (XI.k (XK.alloc 29 [Value.int IntKind.i64 0, Value.int IntKind.i64 0, Value.int IntKind.i64 0]))) 9 (XT.seq (XS.mk (some 9) none (XI.k (XK.alloc 29 [Value.int IntKind.i64 0, Value.int IntKind.i64 0, Value.int IntKind.i64 0]))) 8 (XT.seq (XS.mk none none (XI.k (XK.store 3 (Operand.tmp 9) (Operand.tmp 28)))) 10 (XT.seq (XS.mk none none (XI.still 29 (XK.load [CK.slc] false (Operand.tmp 1)))) 4 (XT.seq (XS.mk none none (XI.still 32 (XK.load [CK.int IntKind.i64, CK.int IntKind.i64, CK.int IntKind.i64] true (Operand.tmp 31)))) 7 (XT.seq (XS.mk none none (XI.k (XK.store 3 (Operand.tmp 10) (Operand.tmp 32)))) 11 XT.done)))))))))))))))) (.ref 4))
def T21n6 : XC := .blk 0 (.rng (Operand.tmp 22) [23, 24] (.ref 1) (.ref 5))
def T21n7 : XC := .seq (.ops [XS.mk (some 79) none (XI.k (XK.load [CK.slc] false (Operand.tmp 6))), XS.mk (some 2) none (XI.k (XK.mov (Operand.tmp 79))), XS.mk (some 3) none (XI.k (XK.mov (Operand.const (Value.int IntKind.i64 0))))]) (.ret)
def T21n8 : XC := .seq (.seq (.ops [XS.mk (some 20) none (XI.k (XK.load [CK.slc] false (Operand.tmp 1))), XS.mk (some 21) none (XI.k (XK.lenS (Operand.tmp 20))), XS.mk (some 22) none (XI.call 52 [Operand.tmp 21])]) (.ref 6)) (.ref 7)
def T21n9 : XC := .seq (.ops [XS.mk (some 6) none (XI.k (XK.alloc 40 [Value.slice none 0 0]))]) (.seq (.lab) (.ref 8))
def T21n10 : XC := .seq (.seq (.ops [XS.mk (some 17) none (XI.k (XK.mov (Operand.tmp 5))), XS.mk (some 18) none (XI.k (XK.cmp BinOp.neq IntKind.i64 (Operand.tmp 17) (Operand.const (Value.int IntKind.i64 0))))]) (.cond (Operand.tmp 18) (.ref 0) (.skip))) (.ref 9)
def T21n11 : XC := .scp (.seq (.ops [XS.mk (some 13) none (XI.k (XK.load [CK.slc] false (Operand.tmp 1))), XS.mk (some 14) none (XI.call 19 [Operand.tmp 13]), XS.mk (some 12) none (XI.k (XK.mov (Operand.tmp 14))), XS.mk (some 15) none (XI.k (XK.ext (Operand.tmp 12) 0)), XS.mk (some 16) none (XI.k (XK.ext (Operand.tmp 12) 1)), XS.mk (some 4) none (XI.k (XK.alloc 34 [Value.slice none 0 0])), XS.mk none none (XI.k (XK.store 1 (Operand.tmp 4) (Operand.tmp 15))), XS.mk (some 5) none (XI.k (XK.mov (Operand.tmp 16)))]) (.ref 10))
def T21 : Nat → XC
  | 0 => T21n0
  | 1 => T21n1
  | 2 => T21n2
  | 3 => T21n3
  | 4 => T21n4
  | 5 => T21n5
  | 6 => T21n6
  | 7 => T21n7
  | 8 => T21n8
  | 9 => T21n9
  | 10 => T21n10
  | 11 => T21n11
  | _ => .skip
theorem t21n0 : T21 0 = T21n0 := rfl
theorem t21n1 : T21 1 = T21n1 := rfl
theorem t21n2 : T21 2 = T21n2 := rfl
theorem t21n3 : T21 3 = T21n3 := rfl
theorem t21n4 : T21 4 = T21n4 := rfl
theorem t21n5 : T21 5 = T21n5 := rfl
theorem t21n6 : T21 6 = T21n6 := rfl
theorem t21n7 : T21 7 = T21n7 := rfl
theorem t21n8 : T21 8 = T21n8 := rfl
theorem t21n9 : T21 9 = T21n9 := rfl
theorem t21n10 : T21 10 = T21n10 := rfl
theorem t21n11 : T21 11 = T21n11 := rfl
def X21 : XC := .seq (.ops [XS.mk (some 1) none (XI.k (XK.box 25 1 (Operand.tmp 0))), XS.mk (some 2) none (XI.k (XK.mov (Operand.const (Value.slice none 0 0)))), XS.mk (some 3) none (XI.k (XK.mov (Operand.const (Value.int IntKind.i64 0))))]) (.ref 11)
abbrev K21 : List Nat := [0, 1, 2, 3, 4, 5, 6, 7, 8, 9, 10, 11, 18, 22, 23, 24, 25, 26, 27, 28, 29, 30, 31, 32, 72]
theorem n21 : Try.f21.ntmps = 80 := by kernel_rfl
theorem r21 : resT Try.f21.results.toList = some [2, 3] := by kernel_rfl
theorem x21 : cmpF Try.prog Try.f21 = some (expand T21 13 X21) := by kernel_rfl
def T25n0 : XC := .seq (.ops [XS.mk (some 6) none (XI.k (XK.mov (Operand.const (Value.bool false)))), XS.mk (some 7) none (XI.k (XK.mov (Operand.const (Value.int IntKind.i64 260))))]) (.ret)
def T25n1 : XC := .seq (.ops [XS.mk (some 37) none (XI.k (XK.mov (Operand.tmp 8))), XS.mk (some 38) none (XI.k (XK.mov (Operand.tmp 1))), XS.mk (some 39) none (XI.k (XK.mov (Operand.tmp 2))), XS.mk (some 40) none (XI.call 53 [Operand.tmp 37, Operand.tmp 38, Operand.tmp 39]), XS.mk (some 6) none (XI.k (XK.mov (Operand.tmp 40))), XS.mk (some 7) none (XI.k (XK.mov (Operand.const (Value.int IntKind.i64 0))))]) (.ret)
def T25n2 : XC := .seq (.seq (.ops [XS.mk (some 15) none (XI.k (XK.mov (Operand.tmp 9))), XS.mk (some 16) none (XI.k (XK.cmp BinOp.neq IntKind.i64 (Operand.tmp 15) (Operand.const (Value.int IntKind.i64 0)))), XS.mk (some 17) none (XI.k (XK.mov (Operand.tmp 16))), XS.mk (some 18) (some (17, false)) (XI.k (XK.mov (Operand.tmp 1))), XS.mk (some 19) (some (17, false)) (XI.k (XK.cmp BinOp.lss IntKind.i64 (Operand.tmp 18) (Operand.const (Value.int IntKind.i64 0)))), XS.mk (some 20) none (XI.k (XK.pick (Operand.tmp 17) (Operand.const (Value.bool true)) (Operand.tmp 19))), XS.mk (some 21) none (XI.k (XK.mov (Operand.tmp 20))), XS.mk (some 22) (some (21, false)) (XI.k (XK.mov (Operand.tmp 2))), XS.mk (some 23) (some (21, false)) (XI.k (XK.cmp BinOp.lss IntKind.i64 (Operand.tmp 22) (Operand.const (Value.int IntKind.i64 0)))), XS.mk (some 24) none (XI.k (XK.pick (Operand.tmp 21) (Operand.const (Value.bool true)) (Operand.tmp 23))), XS.mk (some 25) none (XI.k (XK.mov (Operand.tmp 24))), XS.mk (some 26) (some (25, false)) (XI.k (XK.mov (Operand.tmp 1))), XS.mk (some 27) (some (25, false)) (XI.k (XK.mov (Operand.tmp 0))), XS.mk (some 28) (some (25, false)) (XI.k (XK.lenS (Operand.tmp 27))), XS.mk (some 29) (some (25, false)) (XI.k (XK.cmp BinOp.geq IntKind.i64 (Operand.tmp 26) (Operand.tmp 28))), XS.mk (some 30) none (XI.k (XK.pick (Operand.tmp 25) (Operand.const (Value.bool true)) (Operand.tmp 29))), XS.mk (some 31) none (XI.k (XK.mov (Operand.tmp 30))), XS.mk (some 32) (some (31, false)) (XI.k (XK.mov (Operand.tmp 2))), XS.mk (some 33) (some (31, false)) (XI.k (XK.mov (Operand.tmp 0))), XS.mk (some 34) (some (31, false)) (XI.k (XK.lenS (Operand.tmp 33))), XS.mk (some 35) (some (31, false)) (XI.k (XK.cmp BinOp.geq IntKind.i64 (Operand.tmp 32) (Operand.tmp 34))), XS.mk (some 36) none (XI.k (XK.pick (Operand.tmp 31) (Operand.const (Value.bool true)) (Operand.tmp 35)))]) (.cond (Operand.tmp 36) (.ref 0) (.skip))) (.ref 1)
def T25n3 : XC := .seq (.ops [XS.mk (some 11) none (XI.k (XK.mov (Operand.tmp 0))), XS.mk (some 12) none (XI.call 19 [Operand.tmp 11]), XS.mk (some 10) none (XI.k (XK.mov (Operand.tmp 12))), XS.mk (some 13) none (XI.k (XK.ext (Operand.tmp 10) 0)), XS.mk (some 14) none (XI.k (XK.ext (Operand.tmp 10) 1)), XS.mk (some 8) none (XI.k (XK.mov (Operand.tmp 13))), XS.mk (some 9) none (XI.k (XK.mov (Operand.tmp 14)))]) (.ref 2)
def T25 : Nat → XC
  | 0 => T25n0
  | 1 => T25n1
  | 2 => T25n2
  | 3 => T25n3
  | _ => .skip
theorem t25n0 : T25 0 = T25n0 := rfl
theorem t25n1 : T25 1 = T25n1 := rfl
theorem t25n2 : T25 2 = T25n2 := rfl
theorem t25n3 : T25 3 = T25n3 := rfl
def X25 : XC := .seq (.ops [XS.mk (some 6) none (XI.k (XK.mov (Operand.const (Value.bool false)))), XS.mk (some 7) none (XI.k (XK.mov (Operand.const (Value.int IntKind.i64 0))))]) (.ref 3)
abbrev K25 : List Nat := [0, 1, 2, 6, 7, 8, 9, 36]
theorem n25 : Try.f25.ntmps = 41 := by kernel_rfl
theorem r25 : resT Try.f25.results.toList = some [6, 7] := by kernel_rfl
theorem x25 : cmpF Try.prog Try.f25 = some (expand T25 5 X25) := by kernel_rfl
def T28n0 : XC := .seq (.ops [XS.mk (some 5) none (XI.k (XK.load [CK.int IntKind.i64, CK.int IntKind.i64, CK.int IntKind.i64, CK.int IntKind.i64] true (Operand.tmp 2))), XS.mk (some 6) none (XI.k (XK.load [CK.int IntKind.i64, CK.int IntKind.i64, CK.int IntKind.i64, CK.int IntKind.i64] true (Operand.tmp 3))), XS.mk (some 8) none (XI.k (XK.load [CK.int IntKind.i64, CK.int IntKind.i64, CK.int IntKind.i64, CK.int IntKind.i64] true (Operand.tmp 3))), XS.mk (some 7) none (XI.call 48 [Operand.tmp 5, Operand.tmp 6]), XS.mk none none (XI.still 8 (XK.load [CK.int IntKind.i64, CK.int IntKind.i64, CK.int IntKind.i64, CK.int IntKind.i64] true (Operand.tmp 3))), XS.mk (some 9) none (XI.k (XK.eqa false [CK.int IntKind.i64, CK.int IntKind.i64, CK.int IntKind.i64, CK.int IntKind.i64] (Operand.tmp 7) (Operand.tmp 8))), XS.mk (some 4) none (XI.k (XK.mov (Operand.tmp 9)))]) (.ret)
def T28 : Nat → XC
  | 0 => T28n0
  | _ => .skip
theorem t28n0 : T28 0 = T28n0 := rfl
def X28 : XC := .seq (.ops [XS.mk (some 2) none (XI.k (XK.box 56 4 (Operand.tmp 0))), XS.mk (some 3) none (XI.k (XK.box 56 4 (Operand.tmp 1))), XS.mk (some 4) none (XI.k (XK.mov (Operand.const (Value.bool false))))]) (.ref 0)
abbrev K28 : List Nat := [0, 1, 2, 3, 4]
theorem n28 : Try.f28.ntmps = 10 := by kernel_rfl
theorem r28 : resT Try.f28.results.toList = some [4] := by kernel_rfl
theorem x28 : cmpF Try.prog Try.f28 = some (expand T28 2 X28) := by kernel_rfl
def T48n0 : XC := .ops [XS.mk (some 9) none (XI.k (XK.mov (Operand.tmp 5))), XS.mk (some 10) none (XI.k (XK.mov (Operand.tmp 5))), XS.mk (some 11) none (XI.k (XK.idxA 4 1 (Operand.tmp 2) (Operand.tmp 10))), XS.mk (some 12) none (XI.k (XK.load [CK.int IntKind.i64] false (Operand.tmp 11))), XS.mk (some 13) none (XI.k (XK.mov (Operand.tmp 5))), XS.mk (some 14) none (XI.k (XK.idxA 4 1 (Operand.tmp 3) (Operand.tmp 13))), XS.mk (some 15) none (XI.k (XK.load [CK.int IntKind.i64] false (Operand.tmp 14))), XS.mk (some 16) none (XI.k (XK.mm true IntKind.i64 (Operand.tmp 12) (Operand.tmp 15))), XS.mk (some 17) none (XI.k (XK.idxA 4 1 (Operand.tmp 2) (Operand.tmp 9))), XS.mk none none (XI.k (XK.store 1 (Operand.tmp 17) (Operand.tmp 16)))]
def T48n1 : XC := .seq (.blk 1 (.seq (.ops [XS.mk (some 8) none (XI.k (XK.mov (Operand.tmp 6))), XS.mk (some 5) none (XI.k (XK.mov (Operand.tmp 8)))]) (.ref 0))) (.ops [XS.mk (some 18) none (XI.k (XK.arith BinOp.add IntKind.i64 (Operand.tmp 6) (Operand.const (Value.int IntKind.i64 1)))), XS.mk (some 6) none (XI.k (XK.mov (Operand.tmp 18)))])
def T48n2 : XC := .seq (.cond (Operand.tmp 7) (.skip) (.exit 0)) (.ref 1)
def T48n3 : XC := .seq (.ops [XS.mk (some 7) none (XI.k (XK.cmp BinOp.lss IntKind.i64 (Operand.tmp 6) (Operand.const (Value.int IntKind.i64 4))))]) (.ref 2)
def T48n4 : XC := .seq (.ops [XS.mk (some 19) none (XI.k (XK.load [CK.int IntKind.i64, CK.int IntKind.i64, CK.int IntKind.i64, CK.int IntKind.i64] true (Operand.tmp 2))), XS.mk none none (XI.k (XK.store 4 (Operand.tmp 4) (Operand.tmp 19)))]) (.ret)
def T48n5 : XC := .seq (.seq (.ops [XS.mk (some 6) none (XI.k (XK.mov (Operand.const (Value.int IntKind.i64 0))))]) (.blk 0 (.loop (.ref 3)))) (.ref 4)
def T48 : Nat → XC
  | 0 => T48n0
  | 1 => T48n1
  | 2 => T48n2
  | 3 => T48n3
  | 4 => T48n4
  | 5 => T48n5
  | _ => .skip
theorem t48n0 : T48 0 = T48n0 := rfl
theorem t48n1 : T48 1 = T48n1 := rfl
theorem t48n2 : T48 2 = T48n2 := rfl
theorem t48n3 : T48 3 = T48n3 := rfl
theorem t48n4 : T48 4 = T48n4 := rfl
theorem t48n5 : T48 5 = T48n5 := rfl
def X48 : XC := .seq (.ops [XS.mk (some 2) none (XI.k (XK.box 56 4 (Operand.tmp 0))), XS.mk (some 3) none (XI.k (XK.box 56 4 (Operand.tmp 1))), XS.mk (some 4) none (XI.k (XK.alloc 56 [Value.int IntKind.i64 0, Value.int IntKind.i64 0, Value.int IntKind.i64 0, Value.int IntKind.i64 0]))]) (.ref 5)
abbrev K48 : List Nat := [0, 1, 2, 3, 4, 5, 6, 7]
theorem n48 : Try.f48.ntmps = 20 := by kernel_rfl
theorem r48 : rvOf Try.prog Try.f48.results.toList = some [RV.cell 4 4 true] := by kernel_rfl
theorem x48 : cmpF Try.prog Try.f48 = some (expand T48 7 X48) := by kernel_rfl
def T50n0 : XC := .seq (.ops [XS.mk (some 2) none (XI.k (XK.mov (Operand.const (Value.int IntKind.i64 260))))]) (.ret)
def T50n1 : XC := .seq (.ops [XS.mk (some 2) none (XI.k (XK.mov (Operand.const (Value.int IntKind.i64 0))))]) (.ret)
def T50n2 : XC := .seq (.seq (.ops [XS.mk (some 3) none (XI.k (XK.mov (Operand.tmp 0))), XS.mk (some 4) none (XI.k (XK.lenS (Operand.tmp 3))), XS.mk (some 5) none (XI.k (XK.cmp BinOp.gtr IntKind.i64 (Operand.tmp 4) (Operand.const (Value.int IntKind.i64 400)))), XS.mk (some 6) none (XI.k (XK.mov (Operand.tmp 5))), XS.mk (some 7) (some (6, false)) (XI.k (XK.mov (Operand.tmp 0))), XS.mk (some 8) (some (6, false)) (XI.call 66 [Operand.tmp 7, Operand.func 67]), XS.mk (some 9) none (XI.k (XK.pick (Operand.tmp 6) (Operand.const (Value.bool true)) (Operand.tmp 8)))]) (.cond (Operand.tmp 9) (.ref 0) (.skip))) (.ref 1)
def T50 : Nat → XC
  | 0 => T50n0
  | 1 => T50n1
  | 2 => T50n2
  | _ => .skip
theorem t50n0 : T50 0 = T50n0 := rfl
theorem t50n1 : T50 1 = T50n1 := rfl
theorem t50n2 : T50 2 = T50n2 := rfl
def X50 : XC := .seq (.ops [XS.mk (some 2) none (XI.k (XK.mov (Operand.const (Value.int IntKind.i64 0))))]) (.ref 2)
abbrev K50 : List Nat := [0, 2, 9]
theorem n50 : Try.f50.ntmps = 10 := by kernel_rfl
theorem r50 : resT Try.f50.results.toList = some [2] := by kernel_rfl
theorem x50 : cmpF Try.prog Try.f50 = some (expand T50 4 X50) := by kernel_rfl
def T52n0 : XC := .seq (.ops [XS.mk (some 3) none (XI.k (XK.mkfn (Fn.func 68) [] [Operand.tmp 1])), XS.mk (some 2) none (XI.k (XK.mov (Operand.tmp 3)))]) (.ret)
def T52 : Nat → XC
  | 0 => T52n0
  | _ => .skip
theorem t52n0 : T52 0 = T52n0 := rfl
def X52 : XC := .seq (.ops [XS.mk (some 1) none (XI.k (XK.box 3 1 (Operand.tmp 0))), XS.mk (some 2) none (XI.k (XK.mov (Operand.const Value.nilFunc)))]) (.ref 0)
abbrev K52 : List Nat := [0, 1, 2]
theorem n52 : Try.f52.ntmps = 4 := by kernel_rfl
theorem r52 : resT Try.f52.results.toList = some [2] := by kernel_rfl
theorem x52 : cmpF Try.prog Try.f52 = some (expand T52 2 X52) := by kernel_rfl
def T53n0 : XC := .seq (.ops [XS.mk (some 7) none (XI.k (XK.mov (Operand.tmp 1))), XS.mk (some 8) none (XI.k (XK.mov (Operand.tmp 2))), XS.mk (some 9) none (XI.k (XK.cmp BinOp.lss IntKind.i64 (Operand.tmp 7) (Operand.tmp 8))), XS.mk (some 10) none (XI.k (XK.mov (Operand.tmp 9))), XS.mk (some 11) (some (10, true)) (XI.k (XK.mov (Operand.tmp 0))), XS.mk (some 12) (some (10, true)) (XI.k (XK.mov (Operand.tmp 1))), XS.mk (some 13) (some (10, true)) (XI.k (XK.idx 4 (Operand.tmp 11) (Operand.tmp 12))), XS.mk (some 14) (some (10, true)) (XI.k (XK.load [CK.int IntKind.i64, CK.int IntKind.i64, CK.int IntKind.i64, CK.int IntKind.i64] true (Operand.tmp 13))), XS.mk (some 15) (some (10, true)) (XI.k (XK.mov (Operand.tmp 0))), XS.mk (some 16) (some (10, true)) (XI.k (XK.mov (Operand.tmp 2))), XS.mk (some 17) (some (10, true)) (XI.k (XK.idx 4 (Operand.tmp 15) (Operand.tmp 16))), XS.mk (some 18) (some (10, true)) (XI.k (XK.load [CK.int IntKind.i64, CK.int IntKind.i64, CK.int IntKind.i64, CK.int IntKind.i64] true (Operand.tmp 17))), XS.mk (some 19) (some (10, true)) (XI.call 28 [Operand.tmp 14, Operand.tmp 18]), XS.mk (some 20) none (XI.k (XK.pick (Operand.tmp 10) (Operand.tmp 19) (Operand.const (Value.bool false)))), XS.mk (some 6) none (XI.k (XK.mov (Operand.tmp 20)))]) (.ret)
def T53 : Nat → XC
  | 0 => T53n0
  | _ => .skip
theorem t53n0 : T53 0 = T53n0 := rfl
def X53 : XC := .seq (.ops [XS.mk (some 6) none (XI.k (XK.mov (Operand.const (Value.bool false))))]) (.ref 0)
abbrev K53 : List Nat := [0, 1, 2, 6]
theorem n53 : Try.f53.ntmps = 21 := by kernel_rfl
theorem r53 : resT Try.f53.results.toList = some [6] := by kernel_rfl
theorem x53 : cmpF Try.prog Try.f53 = some (expand T53 2 X53) := by kernel_rfl
def T66n0 : XC := .seq (.ops [XS.mk (some 5) none (XI.k (XK.mov (Operand.tmp 0))), XS.mk (some 6) none (XI.k (XK.mov (Operand.tmp 1))), XS.mk (some 7) none (XI.call 76 [Operand.tmp 5, Operand.tmp 6]), XS.mk (some 8) none (XI.k (XK.cmp BinOp.geq IntKind.i64 (Operand.tmp 7) (Operand.const (Value.int IntKind.i64 0)))), XS.mk (some 4) none (XI.k (XK.mov (Operand.tmp 8)))]) (.ret)
def T66 : Nat → XC
  | 0 => T66n0
  | _ => .skip
theorem t66n0 : T66 0 = T66n0 := rfl
def X66 : XC := .seq (.ops [XS.mk (some 4) none (XI.k (XK.mov (Operand.const (Value.bool false))))]) (.ref 0)
abbrev K66 : List Nat := [0, 1, 4]
theorem n66 : Try.f66.ntmps = 9 := by kernel_rfl
theorem r66 : resT Try.f66.results.toList = some [4] := by kernel_rfl
theorem x66 : cmpF Try.prog Try.f66 = some (expand T66 2 X66) := by kernel_rfl
def T67n0 : XC := .seq (.ops [XS.mk (some 3) none (XI.k (XK.fld 0 (Operand.tmp 1))), XS.mk (some 4) none (XI.k (XK.load [CK.int IntKind.i64] false (Operand.tmp 3))), XS.mk (some 5) none (XI.k (XK.cmp BinOp.lss IntKind.i64 (Operand.tmp 4) (Operand.const (Value.int IntKind.i64 0)))), XS.mk (some 6) none (XI.k (XK.mov (Operand.tmp 5))), XS.mk (some 7) (some (6, false)) (XI.k (XK.fld 0 (Operand.tmp 1))), XS.mk (some 8) (some (6, false)) (XI.k (XK.load [CK.int IntKind.i64] false (Operand.tmp 7))), XS.mk (some 9) (some (6, false)) (XI.k (XK.cmp BinOp.geq IntKind.i64 (Operand.tmp 8) (Operand.const (Value.int IntKind.i64 4)))), XS.mk (some 10) none (XI.k (XK.pick (Operand.tmp 6) (Operand.const (Value.bool true)) (Operand.tmp 9))), XS.mk (some 11) none (XI.k (XK.mov (Operand.tmp 10))), XS.mk (some 12) (some (11, false)) (XI.k (XK.fld 1 (Operand.tmp 1))), XS.mk (some 13) (some (11, false)) (XI.k (XK.load [CK.int IntKind.i64] false (Operand.tmp 12))), XS.mk (some 14) (some (11, false)) (XI.k (XK.cmp BinOp.lss IntKind.i64 (Operand.tmp 13) (Operand.const (Value.int IntKind.i64 1)))), XS.mk (some 15) none (XI.k (XK.pick (Operand.tmp 11) (Operand.const (Value.bool true)) (Operand.tmp 14))), XS.mk (some 16) none (XI.k (XK.mov (Operand.tmp 15))), XS.mk (some 17) (some (16, false)) (XI.k (XK.fld 1 (Operand.tmp 1))), XS.mk (some 18) (some (16, false)) (XI.k (XK.load [CK.int IntKind.i64] false (Operand.tmp 17))), XS.mk (some 19) (some (16, false)) (XI.k (XK.cmp BinOp.gtr IntKind.i64 (Operand.tmp 18) (Operand.const (Value.int IntKind.i64 4)))), XS.mk (some 20) none (XI.k (XK.pick (Operand.tmp 16) (Operand.const (Value.bool true)) (Operand.tmp 19))), XS.mk (some 21) none (XI.k (XK.mov (Operand.tmp 20))), XS.mk (some 22) (some (21, false)) (XI.k (XK.fld 2 (Operand.tmp 1))), XS.mk (some 23) (some (21, false)) (XI.k (XK.load [CK.int IntKind.i64] false (Operand.tmp 22))), XS.mk (some 24) (some (21, false)) (XI.k (XK.cmp BinOp.lss IntKind.i64 (Operand.tmp 23) (Operand.const (Value.int IntKind.i64 0)))), XS.mk (some 25) none (XI.k (XK.pick (Operand.tmp 21) (Operand.const (Value.bool true)) (Operand.tmp 24))), XS.mk (some 2) none (XI.k (XK.mov (Operand.tmp 25)))]) (.ret)
def T67 : Nat → XC
  | 0 => T67n0
  | _ => .skip
theorem t67n0 : T67 0 = T67n0 := rfl
def X67 : XC := .seq (.ops [XS.mk (some 1) none (XI.k (XK.box 29 3 (Operand.tmp 0))), XS.mk (some 2) none (XI.k (XK.mov (Operand.const (Value.bool false))))]) (.ref 0)
abbrev K67 : List Nat := [0, 1, 2]
theorem n67 : Try.f67.ntmps = 26 := by kernel_rfl
theorem r67 : resT Try.f67.results.toList = some [2] := by kernel_rfl
theorem x67 : cmpF Try.prog Try.f67 = some (expand T67 2 X67) := by kernel_rfl
def T68n0 : XC := .ops [XS.mk (some 14) none (XI.k (XK.mov (Operand.tmp 4))), XS.mk (some 15) none (XI.k (XK.arith BinOp.add IntKind.i64 (Operand.tmp 14) (Operand.const (Value.int IntKind.i64 1)))), XS.mk (some 4) none (XI.k (XK.mov (Operand.tmp 15)))]
def T68n1 : XC := .seq (.blk 3 (.seq (.ops [XS.mk (some 16) none (XI.k (XK.mov (Operand.tmp 0))), XS.mk (some 17) none (XI.k (XK.mov (Operand.tmp 3))), XS.mk (some 18) none (XI.k (XK.mov (Operand.tmp 4))), XS.mk (some 19) none (XI.callv (Operand.tmp 16) [Operand.tmp 17, Operand.tmp 18]), XS.mk (some 20) none (XI.k (XK.not (Operand.tmp 19)))]) (.cond (Operand.tmp 20) (.ret) (.skip)))) (.ref 0)
def T68n2 : XC := .seq (.seq (.ops [XS.mk (some 11) none (XI.k (XK.mov (Operand.tmp 4))), XS.mk (some 12) none (XI.k (XK.load [CK.int IntKind.i64] false (Operand.tmp 1))), XS.mk (some 13) none (XI.k (XK.cmp BinOp.lss IntKind.i64 (Operand.tmp 11) (Operand.tmp 12)))]) (.cond (Operand.tmp 13) (.skip) (.exit 2))) (.ref 1)
def T68n3 : XC := .seq (.ops [XS.mk (some 9) none (XI.k (XK.mov (Operand.tmp 3))), XS.mk (some 10) none (XI.k (XK.arith BinOp.add IntKind.i64 (Operand.tmp 9) (Operand.const (Value.int IntKind.i64 1)))), XS.mk (some 4) none (XI.k (XK.mov (Operand.tmp 10)))]) (.blk 2 (.loop (.ref 2)))
def T68n4 : XC := .seq (.blk 1 (.seq (.ops [XS.mk (some 8) none (XI.k (XK.mov (Operand.tmp 6))), XS.mk (some 3) none (XI.k (XK.mov (Operand.tmp 8)))]) (.ref 3))) (.ops [XS.mk (some 21) none (XI.k (XK.arith BinOp.add IntKind.i64 (Operand.tmp 6) (Operand.const (Value.int IntKind.i64 1)))), XS.mk (some 6) none (XI.k (XK.mov (Operand.tmp 21)))])
def T68n5 : XC := .seq (.cond (Operand.tmp 7) (.skip) (.exit 0)) (.ref 4)
def T68n6 : XC := .seq (.ops [XS.mk (some 7) none (XI.k (XK.cmp BinOp.lss IntKind.i64 (Operand.tmp 6) (Operand.tmp 5)))]) (.ref 5)
def T68 : Nat → XC
  | 0 => T68n0
  | 1 => T68n1
  | 2 => T68n2
  | 3 => T68n3
  | 4 => T68n4
  | 5 => T68n5
  | 6 => T68n6
  | _ => .skip
theorem t68n0 : T68 0 = T68n0 := rfl
theorem t68n1 : T68 1 = T68n1 := rfl
theorem t68n2 : T68 2 = T68n2 := rfl
theorem t68n3 : T68 3 = T68n3 := rfl
theorem t68n4 : T68 4 = T68n4 := rfl
theorem t68n5 : T68 5 = T68n5 := rfl
theorem t68n6 : T68 6 = T68n6 := rfl
def X68 : XC := .seq (.ops [XS.mk (some 5) none (XI.k (XK.load [CK.int IntKind.i64] false (Operand.tmp 1))), XS.mk (some 6) none (XI.k (XK.mov (Operand.const (Value.int IntKind.i64 0))))]) (.blk 0 (.loop (.ref 6)))
abbrev K68 : List Nat := [0, 1, 3, 4, 5, 6, 7, 13, 20]
theorem n68 : Try.f68.ntmps = 22 := by kernel_rfl
theorem r68 : resT Try.f68.results.toList = some [] := by kernel_rfl
theorem x68 : cmpF Try.prog Try.f68 = some (expand T68 8 X68) := by kernel_rfl
def T76n0 : XC := .seq (.ops [XS.mk (some 17) none (XI.k (XK.mov (Operand.tmp 5))), XS.mk (some 4) none (XI.k (XK.mov (Operand.tmp 17)))]) (.ret)
def T76n1 : XC := .seq (.ops [XS.mk (some 11) none (XI.k (XK.mov (Operand.tmp 1))), XS.mk (some 12) none (XI.k (XK.mov (Operand.tmp 0))), XS.mk (some 13) none (XI.k (XK.mov (Operand.tmp 5))), XS.mk (some 14) none (XI.k (XK.idx 3 (Operand.tmp 12) (Operand.tmp 13))), XS.mk (some 15) none (XI.k (XK.load [CK.int IntKind.i64, CK.int IntKind.i64, CK.int IntKind.i64] true (Operand.tmp 14))), XS.mk (some 16) none (XI.callv (Operand.tmp 11) [Operand.tmp 15])]) (.cond (Operand.tmp 16) (.ref 0) (.skip))
def T76n2 : XC := .seq (.blk 1 (.seq (.ops [XS.mk (some 10) none (XI.k (XK.mov (Operand.tmp 8))), XS.mk (some 5) none (XI.k (XK.mov (Operand.tmp 10)))]) (.ref 1))) (.ops [XS.mk (some 18) none (XI.k (XK.arith BinOp.add IntKind.i64 (Operand.tmp 8) (Operand.const (Value.int IntKind.i64 1)))), XS.mk (some 8) none (XI.k (XK.mov (Operand.tmp 18)))])
def T76n3 : XC := .seq (.cond (Operand.tmp 9) (.skip) (.exit 0)) (.ref 2)
def T76n4 : XC := .seq (.ops [XS.mk (some 9) none (XI.k (XK.cmp BinOp.lss IntKind.i64 (Operand.tmp 8) (Operand.tmp 7)))]) (.ref 3)
def T76n5 : XC := .seq (.ops [XS.mk (some 4) none (XI.k (XK.mov (Operand.const (Value.int IntKind.i64 (-1)))))]) (.ret)
def T76n6 : XC := .seq (.seq (.ops [XS.mk (some 6) none (XI.k (XK.mov (Operand.tmp 0))), XS.mk (some 7) none (XI.k (XK.lenS (Operand.tmp 6))), XS.mk (some 8) none (XI.k (XK.mov (Operand.const (Value.int IntKind.i64 0))))]) (.blk 0 (.loop (.ref 4)))) (.ref 5)
def T76 : Nat → XC
  | 0 => T76n0
  | 1 => T76n1
  | 2 => T76n2
  | 3 => T76n3
  | 4 => T76n4
  | 5 => T76n5
  | 6 => T76n6
  | _ => .skip
theorem t76n0 : T76 0 = T76n0 := rfl
theorem t76n1 : T76 1 = T76n1 := rfl
theorem t76n2 : T76 2 = T76n2 := rfl
theorem t76n3 : T76 3 = T76n3 := rfl
theorem t76n4 : T76 4 = T76n4 := rfl
theorem t76n5 : T76 5 = T76n5 := rfl
theorem t76n6 : T76 6 = T76n6 := rfl
def X76 : XC := .seq (.ops [XS.mk (some 4) none (XI.k (XK.mov (Operand.const (Value.int IntKind.i64 0))))]) (.ref 6)
abbrev K76 : List Nat := [0, 1, 4, 5, 7, 8, 9, 16]
theorem n76 : Try.f76.ntmps = 19 := by kernel_rfl
theorem r76 : resT Try.f76.results.toList = some [4] := by kernel_rfl
theorem x76 : cmpF Try.prog Try.f76 = some (expand T76 8 X76) := by kernel_rfl
def T15n0 : XC := .seq (.ops [XS.mk (some 14) none (XI.call 16 [Operand.const (Value.int IntKind.i64 0), Operand.const (Value.int IntKind.i64 2), Operand.const (Value.int IntKind.i64 8)]), XS.mk (some 15) none (XI.call 16 [Operand.const (Value.int IntKind.i64 1), Operand.const (Value.int IntKind.i64 1), Operand.const (Value.int IntKind.i64 8)]), XS.mk (some 16) none (XI.k (XK.buildS 29 2 3 [Value.int IntKind.i64 0, Value.int IntKind.i64 0, Value.int IntKind.i64 0] [(0, Operand.tmp 14), (1, Operand.tmp 15)])), XS.mk (some 17) none (XI.k (XK.build [Value.int IntKind.i64 0, Value.int IntKind.i64 0] [(0, 1, Operand.const (Value.int IntKind.i64 0)), (1, 1, Operand.const (Value.int IntKind.i64 1))])), XS.mk (some 18) none (XI.k (XK.buildS 58 1 2 [Value.int IntKind.i64 0, Value.int IntKind.i64 0] [(0, Operand.tmp 17)])), XS.mk (some 19) none (XI.call 17 [Operand.tmp 16, Operand.tmp 18]), XS.mk (some 20) none (XI.k (XK.mov (Operand.tmp 19))), XS.mk (some 21) (some (20, true)) (XI.k (XK.mov (Operand.tmp 1))), XS.mk (some 22) (some (20, true)) (XI.call 17 [Operand.tmp 21, Operand.const (Value.slice none 0 0)]), XS.mk (some 23) none (XI.k (XK.pick (Operand.tmp 20) (Operand.tmp 22) (Operand.const (Value.bool false)))), XS.mk (some 24) none (XI.k (XK.mov (Operand.tmp 23))), XS.mk (some 25) (some (24, true)) (XI.k (XK.mov (Operand.tmp 3))), XS.mk (some 26) (some (24, true)) (XI.k (XK.cmp BinOp.eql IntKind.i64 (Operand.tmp 25) (Operand.const (Value.int IntKind.i64 0)))), XS.mk (some 27) none (XI.k (XK.pick (Operand.tmp 24) (Operand.tmp 26) (Operand.const (Value.bool false)))), XS.mk (some 28) none (XI.k (XK.mov (Operand.tmp 27))), XS.mk (some 29) (some (28, true)) (XI.k (XK.mov (Operand.tmp 2))), XS.mk (some 30) (some (28, true)) (XI.k (XK.lenS (Operand.tmp 29))), XS.mk (some 31) (some (28, true)) (XI.k (XK.cmp BinOp.eql IntKind.i64 (Operand.tmp 30) (Operand.const (Value.int IntKind.i64 4)))), XS.mk (some 32) none (XI.k (XK.pick (Operand.tmp 28) (Operand.tmp 31) (Operand.const (Value.bool false)))), XS.mk (some 33) none (XI.k (XK.mov (Operand.tmp 32))), XS.mk (some 34) (some (33, true)) (XI.k (XK.mov (Operand.tmp 2))), XS.mk (some 35) (some (33, true)) (XI.k (XK.idx 4 (Operand.tmp 34) (Operand.const (Value.int IntKind.i64 3)))), XS.mk (some 36) (some (33, true)) (XI.k (XK.load [CK.int IntKind.i64, CK.int IntKind.i64, CK.int IntKind.i64, CK.int IntKind.i64] true (Operand.tmp 35))), XS.mk (some 37) (some (33, true)) (XI.k (XK.build [Value.int IntKind.i64 0, Value.int IntKind.i64 0, Value.int IntKind.i64 0, Value.int IntKind.i64 0] [(0, 1, Operand.const (Value.int IntKind.i64 2)), (1, 1, Operand.const (Value.int IntKind.i64 2)), (2, 1, Operand.const (Value.int IntKind.i64 0)), (3, 1, Operand.const (Value.int IntKind.i64 0))])), XS.mk (some 38) (some (33, true)) (XI.k (XK.eqa false [CK.int IntKind.i64, CK.int IntKind.i64, CK.int IntKind.i64, CK.int IntKind.i64] (Operand.tmp 36) (Operand.tmp 37))), XS.mk (some 39) none (XI.k (XK.pick (Operand.tmp 33) (Operand.tmp 38) (Operand.const (Value.bool false)))), XS.mk (some 0) none (XI.k (XK.mov (Operand.tmp 39)))]) (.ret)
def T15n1 : XC := .seq (.ops [XS.mk (some 10) none (XI.k (XK.mov (Operand.tmp 1))), XS.mk (some 11) none (XI.call 19 [Operand.tmp 10]), XS.mk (some 9) none (XI.k (XK.mov (Operand.tmp 11))), XS.mk (some 12) none (XI.k (XK.ext (Operand.tmp 9) 0)), XS.mk (some 13) none (XI.k (XK.ext (Operand.tmp 9) 1)), XS.mk (some 2) none (XI.k (XK.mov (Operand.tmp 12))), XS.mk (some 3) none (XI.k (XK.mov (Operand.tmp 13)))]) (.ref 0)
def T15n2 : XC := .seq (.ops [XS.mk (some 4) none (XI.call 16 [Operand.const (Value.int IntKind.i64 0), Operand.const (Value.int IntKind.i64 2), Operand.const (Value.int IntKind.i64 8)]), XS.mk (some 5) none (XI.call 16 [Operand.const (Value.int IntKind.i64 0), Operand.const (Value.int IntKind.i64 3), Operand.const (Value.int IntKind.i64 5)]), XS.mk (some 6) none (XI.call 16 [Operand.const (Value.int IntKind.i64 1), Operand.const (Value.int IntKind.i64 4), Operand.const (Value.int IntKind.i64 5)]), XS.mk (some 7) none (XI.call 16 [Operand.const (Value.int IntKind.i64 1), Operand.const (Value.int IntKind.i64 1), Operand.const (Value.int IntKind.i64 8)]), XS.mk (some 8) none (XI.k (XK.buildS 29 4 3 [Value.int IntKind.i64 0, Value.int IntKind.i64 0, Value.int IntKind.i64 0] [(0, Operand.tmp 4), (1, Operand.tmp 5), (2, Operand.tmp 6), (3, Operand.tmp 7)])), XS.mk (some 1) none (XI.k (XK.mov (Operand.tmp 8)))]) (.ref 1)
def T15 : Nat → XC
  | 0 => T15n0
  | 1 => T15n1
  | 2 => T15n2
  | _ => .skip
theorem t15n0 : T15 0 = T15n0 := rfl
theorem t15n1 : T15 1 = T15n1 := rfl
theorem t15n2 : T15 2 = T15n2 := rfl
def X15 : XC := .seq (.ops [XS.mk (some 0) none (XI.k (XK.mov (Operand.const (Value.bool false))))]) (.ref 2)
abbrev K15 : List Nat := [0, 1, 2, 3]
theorem n15 : Try.f15.ntmps = 40 := by kernel_rfl
theorem r15 : resT Try.f15.results.toList = some [0] := by kernel_rfl
theorem x15 : cmpF Try.prog Try.f15 = some (expand T15 4 X15) := by kernel_rfl
end Go.Proofs.Ytnedgfkgmdoahaa
