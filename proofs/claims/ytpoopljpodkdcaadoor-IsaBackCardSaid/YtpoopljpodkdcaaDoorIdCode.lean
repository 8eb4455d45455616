/- Printed by program: the small code of functions, and that it is theirs. -/
import Derived.Test.YtpoopljpodkdcaaDoorSxStill
import Derived.Test.YtpoopljpodkdcaaDoorProg
import Derived.KernelRfl
set_option linter.unusedSimpArgs false
set_option linter.unusedVariables false
set_option linter.unnecessarySimpa false
namespace Go.Proofs.YtpoopljpodkdcaaDoor
open Go Go.Sx
set_option maxRecDepth 100000
def T3n0 : XC := .seq (.ops [XS.mk (some 9) none (XI.k (XK.mov (Operand.tmp 2))), XS.mk (some 13) none (XI.k (XK.mov (Operand.tmp 2))), XS.mk (some 7) none (XI.k (XK.load [CK.int IntKind.i64, CK.int IntKind.i64, CK.int IntKind.i64, CK.int IntKind.i64, CK.int IntKind.i64] true (Operand.tmp 3))), XS.mk (some 8) none (XI.k (XK.load [CK.int IntKind.u64, CK.int IntKind.u64, CK.int IntKind.u64, CK.int IntKind.u64, CK.int IntKind.u64, CK.int IntKind.u64, CK.int IntKind.u64, CK.int IntKind.u64] true (Operand.tmp 4))), XS.mk (some 11) none (XI.k (XK.load [CK.int IntKind.i64, CK.int IntKind.i64, CK.int IntKind.i64, CK.int IntKind.i64, CK.int IntKind.i64] true (Operand.tmp 3))), XS.mk (some 12) none (XI.k (XK.load [CK.int IntKind.u64, CK.int IntKind.u64, CK.int IntKind.u64, CK.int IntKind.u64, CK.int IntKind.u64, CK.int IntKind.u64, CK.int IntKind.u64, CK.int IntKind.u64] true (Operand.tmp 4))), XS.mk (some 10) none (XI.call 10 [Operand.tmp 7, Operand.tmp 8, Operand.tmp 9]), XS.mk none none (XI.still 12 (XK.load [CK.int IntKind.u64, CK.int IntKind.u64, CK.int IntKind.u64, CK.int IntKind.u64, CK.int IntKind.u64, CK.int IntKind.u64, CK.int IntKind.u64, CK.int IntKind.u64] true (Operand.tmp 4))), XS.mk none none (XI.still 11 (XK.load [CK.int IntKind.i64, CK.int IntKind.i64, CK.int IntKind.i64, CK.int IntKind.i64, CK.int IntKind.i64] true (Operand.tmp 3))), XS.mk (some 14) none (XI.call 11 [Operand.tmp 11, Operand.tmp 12, Operand.tmp 13]), XS.mk (some 15) none (XI.k (XK.eqa false [CK.int IntKind.i64, CK.int IntKind.i64, CK.int IntKind.i64, CK.int IntKind.u64, CK.int IntKind.u64] (Operand.tmp 10) (Operand.tmp 14))), XS.mk (some 16) none (XI.k (XK.mov (Operand.tmp 15))), XS.mk (some 17) (some (16, true)) (XI.k (XK.load [CK.int IntKind.i64, CK.int IntKind.i64, CK.int IntKind.i64, CK.int IntKind.i64, CK.int IntKind.i64] true (Operand.tmp 3))), XS.mk (some 19) (some (16, true)) (XI.k (XK.load [CK.int IntKind.i64, CK.int IntKind.i64, CK.int IntKind.i64, CK.int IntKind.i64, CK.int IntKind.i64] true (Operand.tmp 3))), XS.mk (some 18) (some (16, true)) (XI.call 12 [Operand.tmp 17]), XS.mk none (some (16, true)) (XI.still 19 (XK.load [CK.int IntKind.i64, CK.int IntKind.i64, CK.int IntKind.i64, CK.int IntKind.i64, CK.int IntKind.i64] true (Operand.tmp 3))), XS.mk (some 20) (some (16, true)) (XI.call 13 [Operand.tmp 19]), XS.mk (some 21) (some (16, true)) (XI.k (XK.eqb false (Operand.tmp 18) (Operand.tmp 20))), XS.mk (some 22) none (XI.k (XK.pick (Operand.tmp 16) (Operand.tmp 21) (Operand.const (Value.bool false)))), XS.mk (some 6) none (XI.k (XK.mov (Operand.tmp 22)))]) (.ret)
def T3 : Nat → XC
  | 0 => T3n0
  | _ => .skip
theorem t3n0 : T3 0 = T3n0 := rfl
def X3 : XC := .seq (.ops [XS.mk (some 3) none (XI.k (XK.box 23 5 (Operand.tmp 0))), XS.mk (some 4) none (XI.k (XK.box 25 8 (Operand.tmp 1))), XS.mk (some 6) none (XI.k (XK.mov (Operand.const (Value.bool false))))]) (.ref 0)
abbrev K3 : List Nat := [0, 1, 2, 3, 4, 6]
theorem n3 : Tryd.f3.ntmps = 23 := by kernel_rfl
theorem r3 : resT Tryd.f3.results.toList = some [6] := by kernel_rfl
theorem x3 : cmpF Tryd.prog Tryd.f3 = some (expand T3 2 X3) := by kernel_rfl
def T10n0 : XC := .seq (.ops [XS.mk (some 26) none (XI.k (XK.build [Value.int IntKind.i64 0, Value.int IntKind.i64 0, Value.int IntKind.i64 0, Value.int IntKind.u64 0, Value.int IntKind.u64 0] [])), XS.mk none none (XI.k (XK.store 5 (Operand.tmp 6) (Operand.tmp 26)))]) (.ret)
def T10n1 : XC := .seq (.ops [XS.mk (some 52) none (XI.k (XK.mov (Operand.tmp 9))), XS.mk (some 53) none (XI.callv (Operand.tmp 52) [Operand.const (Value.int IntKind.i64 7)]), XS.mk none none (XI.k (XK.store 5 (Operand.tmp 6) (Operand.tmp 53)))]) (.ret)
def T10n2 : XC := .seq (.ops [XS.mk (some 56) none (XI.k (XK.mov (Operand.tmp 7))), XS.mk (some 57) none (XI.k (XK.fld 4 (Operand.tmp 3))), XS.mk (some 58) none (XI.k (XK.load [CK.int IntKind.i64] false (Operand.tmp 57))), XS.mk (some 59) none (XI.k (XK.conv IntKind.u64 (Operand.tmp 58))), XS.mk (some 60) none (XI.callv (Operand.tmp 56) [Operand.tmp 59]), XS.mk none none (XI.k (XK.store 5 (Operand.tmp 6) (Operand.tmp 60)))]) (.ret)
def T10n3 : XC := .seq (.ops [XS.mk (some 63) none (XI.k (XK.mov (Operand.tmp 7))), XS.mk (some 64) none (XI.k (XK.mov (Operand.tmp 12))), XS.mk (some 65) none (XI.callv (Operand.tmp 63) [Operand.tmp 64]), XS.mk none none (XI.k (XK.store 5 (Operand.tmp 6) (Operand.tmp 65)))]) (.ret)
def T10n4 : XC := .seq (.ops [XS.mk (some 68) none (XI.k (XK.mov (Operand.tmp 7))), XS.mk (some 69) none (XI.k (XK.mov (Operand.tmp 12))), XS.mk (some 70) none (XI.k (XK.mov (Operand.tmp 13))), XS.mk (some 71) none (XI.k (XK.arith BinOp.add IntKind.u64 (Operand.tmp 69) (Operand.tmp 70))), XS.mk (some 72) none (XI.callv (Operand.tmp 68) [Operand.tmp 71]), XS.mk none none (XI.k (XK.store 5 (Operand.tmp 6) (Operand.tmp 72)))]) (.ret)
def T10n5 : XC := .seq (.ops [XS.mk (some 75) none (XI.k (XK.mov (Operand.tmp 7))), XS.mk (some 76) none (XI.k (XK.mov (Operand.tmp 12))), XS.mk (some 77) none (XI.k (XK.mov (Operand.tmp 13))), XS.mk (some 78) none (XI.k (XK.arith BinOp.sub IntKind.u64 (Operand.tmp 76) (Operand.tmp 77))), XS.mk (some 79) none (XI.callv (Operand.tmp 75) [Operand.tmp 78]), XS.mk none none (XI.k (XK.store 5 (Operand.tmp 6) (Operand.tmp 79)))]) (.ret)
def T10n6 : XC := .seq (.ops [XS.mk (some 82) none (XI.k (XK.mov (Operand.tmp 7))), XS.mk (some 83) none (XI.k (XK.mov (Operand.tmp 12))), XS.mk (some 84) none (XI.k (XK.mov (Operand.tmp 13))), XS.mk (some 85) none (XI.k (XK.arith BinOp.mul IntKind.u64 (Operand.tmp 83) (Operand.tmp 84))), XS.mk (some 86) none (XI.callv (Operand.tmp 82) [Operand.tmp 85]), XS.mk none none (XI.k (XK.store 5 (Operand.tmp 6) (Operand.tmp 86)))]) (.ret)
def T10n7 : XC := .seq (.ops [XS.mk (some 89) none (XI.k (XK.mov (Operand.tmp 7))), XS.mk (some 90) none (XI.k (XK.mov (Operand.tmp 12))), XS.mk (some 91) none (XI.k (XK.mov (Operand.tmp 13))), XS.mk (some 92) none (XI.k (XK.bits BinOp.and IntKind.u64 (Operand.tmp 90) (Operand.tmp 91))), XS.mk (some 93) none (XI.callv (Operand.tmp 89) [Operand.tmp 92]), XS.mk none none (XI.k (XK.store 5 (Operand.tmp 6) (Operand.tmp 93)))]) (.ret)
def T10n8 : XC := .seq (.ops [XS.mk (some 96) none (XI.k (XK.mov (Operand.tmp 7))), XS.mk (some 97) none (XI.k (XK.mov (Operand.tmp 12))), XS.mk (some 98) none (XI.k (XK.mov (Operand.tmp 13))), XS.mk (some 99) none (XI.k (XK.bits BinOp.xor IntKind.u64 (Operand.tmp 97) (Operand.tmp 98))), XS.mk (some 100) none (XI.callv (Operand.tmp 96) [Operand.tmp 99]), XS.mk none none (XI.k (XK.store 5 (Operand.tmp 6) (Operand.tmp 100)))]) (.ret)
def T10n9 : XC := .seq (.ops [XS.mk (some 103) none (XI.k (XK.mov (Operand.tmp 7))), XS.mk (some 104) none (XI.k (XK.mov (Operand.tmp 12))), XS.mk (some 105) none (XI.k (XK.mov (Operand.tmp 13))), XS.mk (some 106) none (XI.k (XK.div BinOp.rem IntKind.u64 (Operand.tmp 105) (Operand.const (Value.int IntKind.u64 64)))), XS.mk (some 107) none (XI.k (XK.shift BinOp.shl IntKind.u64 (Operand.tmp 104) (Operand.tmp 106))), XS.mk (some 108) none (XI.callv (Operand.tmp 103) [Operand.tmp 107]), XS.mk none none (XI.k (XK.store 5 (Operand.tmp 6) (Operand.tmp 108)))]) (.ret)
def T10n10 : XC := .seq (.ops [XS.mk (some 111) none (XI.k (XK.mov (Operand.tmp 7))), XS.mk (some 112) none (XI.k (XK.mov (Operand.tmp 12))), XS.mk (some 113) none (XI.k (XK.mov (Operand.tmp 13))), XS.mk (some 114) none (XI.k (XK.div BinOp.rem IntKind.u64 (Operand.tmp 113) (Operand.const (Value.int IntKind.u64 64)))), XS.mk (some 115) none (XI.k (XK.shift BinOp.shr IntKind.u64 (Operand.tmp 112) (Operand.tmp 114))), XS.mk (some 116) none (XI.callv (Operand.tmp 111) [Operand.tmp 115]), XS.mk none none (XI.k (XK.store 5 (Operand.tmp 6) (Operand.tmp 116)))]) (.ret)
def T10n11 : XC := .seq (.ops [XS.mk (some 119) none (XI.k (XK.load [CK.int IntKind.i64] false (Operand.tmp 5))), XS.mk (some 120) none (XI.k (XK.arith BinOp.add IntKind.i64 (Operand.tmp 119) (Operand.const (Value.int IntKind.i64 1)))), XS.mk (some 121) none (XI.k (XK.fld 1 (Operand.tmp 3))), XS.mk (some 122) none (XI.k (XK.load [CK.int IntKind.i64] false (Operand.tmp 121))), XS.mk (some 123) none (XI.k (XK.mov (Operand.tmp 14))), XS.mk (some 124) none (XI.k (XK.build [Value.int IntKind.i64 0, Value.int IntKind.i64 0, Value.int IntKind.i64 0, Value.int IntKind.u64 0, Value.int IntKind.u64 0] [(0, 1, Operand.const (Value.int IntKind.i64 3)), (1, 1, Operand.tmp 120), (2, 1, Operand.tmp 122), (4, 1, Operand.tmp 123)])), XS.mk none none (XI.k (XK.store 5 (Operand.tmp 6) (Operand.tmp 124)))]) (.ret)
def T10n12 : XC := .seq (.ops [XS.mk (some 127) none (XI.k (XK.load [CK.int IntKind.i64] false (Operand.tmp 5))), XS.mk (some 128) none (XI.k (XK.arith BinOp.add IntKind.i64 (Operand.tmp 127) (Operand.const (Value.int IntKind.i64 1)))), XS.mk (some 129) none (XI.k (XK.mov (Operand.tmp 11))), XS.mk (some 130) none (XI.k (XK.mov (Operand.tmp 14))), XS.mk (some 131) none (XI.k (XK.build [Value.int IntKind.i64 0, Value.int IntKind.i64 0, Value.int IntKind.i64 0, Value.int IntKind.u64 0, Value.int IntKind.u64 0] [(0, 1, Operand.const (Value.int IntKind.i64 4)), (1, 1, Operand.tmp 128), (3, 1, Operand.tmp 129), (4, 1, Operand.tmp 130)])), XS.mk none none (XI.k (XK.store 5 (Operand.tmp 6) (Operand.tmp 131)))]) (.ret)
def T10n13 : XC := .seq (.ops [XS.mk (some 134) none (XI.k (XK.mov (Operand.tmp 8))), XS.mk (some 135) none (XI.callv (Operand.tmp 134) [Operand.const (Value.bool true)]), XS.mk none none (XI.k (XK.store 5 (Operand.tmp 6) (Operand.tmp 135)))]) (.ret)
def T10n14 : XC := .seq (.ops [XS.mk (some 138) none (XI.k (XK.mov (Operand.tmp 8))), XS.mk (some 139) none (XI.k (XK.mov (Operand.tmp 11))), XS.mk (some 140) none (XI.k (XK.mov (Operand.tmp 12))), XS.mk (some 141) none (XI.k (XK.cmp BinOp.eql IntKind.u64 (Operand.tmp 139) (Operand.tmp 140))), XS.mk (some 142) none (XI.callv (Operand.tmp 138) [Operand.tmp 141]), XS.mk none none (XI.k (XK.store 5 (Operand.tmp 6) (Operand.tmp 142)))]) (.ret)
def T10n15 : XC := .seq (.ops [XS.mk (some 145) none (XI.k (XK.mov (Operand.tmp 8))), XS.mk (some 146) none (XI.k (XK.mov (Operand.tmp 11))), XS.mk (some 147) none (XI.k (XK.mov (Operand.tmp 12))), XS.mk (some 148) none (XI.k (XK.cmp BinOp.neq IntKind.u64 (Operand.tmp 146) (Operand.tmp 147))), XS.mk (some 149) none (XI.callv (Operand.tmp 145) [Operand.tmp 148]), XS.mk none none (XI.k (XK.store 5 (Operand.tmp 6) (Operand.tmp 149)))]) (.ret)
def T10n16 : XC := .seq (.ops [XS.mk (some 152) none (XI.k (XK.mov (Operand.tmp 8))), XS.mk (some 153) none (XI.k (XK.mov (Operand.tmp 11))), XS.mk (some 154) none (XI.k (XK.mov (Operand.tmp 12))), XS.mk (some 155) none (XI.k (XK.cmp BinOp.lss IntKind.u64 (Operand.tmp 153) (Operand.tmp 154))), XS.mk (some 156) none (XI.callv (Operand.tmp 152) [Operand.tmp 155]), XS.mk none none (XI.k (XK.store 5 (Operand.tmp 6) (Operand.tmp 156)))]) (.ret)
def T10n17 : XC := .seq (.ops [XS.mk (some 159) none (XI.k (XK.mov (Operand.tmp 9))), XS.mk (some 160) none (XI.callv (Operand.tmp 159) [Operand.const (Value.int IntKind.i64 5)]), XS.mk none none (XI.k (XK.store 5 (Operand.tmp 6) (Operand.tmp 160)))]) (.ret)
def T10n18 : XC := .seq (.ops [XS.mk (some 158) none (XI.k (XK.cmp BinOp.eql IntKind.i64 (Operand.tmp 49) (Operand.const (Value.int IntKind.i64 17)))), XS.mk (some 157) none (XI.k (XK.mov (Operand.tmp 158)))]) (.cond (Operand.tmp 157) (.ref 17) (.skip))
def T10n19 : XC := .seq (.ops [XS.mk (some 151) none (XI.k (XK.cmp BinOp.eql IntKind.i64 (Operand.tmp 49) (Operand.const (Value.int IntKind.i64 16)))), XS.mk (some 150) none (XI.k (XK.mov (Operand.tmp 151)))]) (.cond (Operand.tmp 150) (.ref 16) (.ref 18))
def T10n20 : XC := .seq (.ops [XS.mk (some 144) none (XI.k (XK.cmp BinOp.eql IntKind.i64 (Operand.tmp 49) (Operand.const (Value.int IntKind.i64 15)))), XS.mk (some 143) none (XI.k (XK.mov (Operand.tmp 144)))]) (.cond (Operand.tmp 143) (.ref 15) (.ref 19))
def T10n21 : XC := .seq (.ops [XS.mk (some 137) none (XI.k (XK.cmp BinOp.eql IntKind.i64 (Operand.tmp 49) (Operand.const (Value.int IntKind.i64 14)))), XS.mk (some 136) none (XI.k (XK.mov (Operand.tmp 137)))]) (.cond (Operand.tmp 136) (.ref 14) (.ref 20))
def T10n22 : XC := .seq (.ops [XS.mk (some 133) none (XI.k (XK.cmp BinOp.eql IntKind.i64 (Operand.tmp 49) (Operand.const (Value.int IntKind.i64 13)))), XS.mk (some 132) none (XI.k (XK.mov (Operand.tmp 133)))]) (.cond (Operand.tmp 132) (.ref 13) (.ref 21))
def T10n23 : XC := .seq (.ops [XS.mk (some 126) none (XI.k (XK.cmp BinOp.eql IntKind.i64 (Operand.tmp 49) (Operand.const (Value.int IntKind.i64 12)))), XS.mk (some 125) none (XI.k (XK.mov (Operand.tmp 126)))]) (.cond (Operand.tmp 125) (.ref 12) (.ref 22))
def T10n24 : XC := .seq (.ops [XS.mk (some 118) none (XI.k (XK.cmp BinOp.eql IntKind.i64 (Operand.tmp 49) (Operand.const (Value.int IntKind.i64 11)))), XS.mk (some 117) none (XI.k (XK.mov (Operand.tmp 118)))]) (.cond (Operand.tmp 117) (.ref 11) (.ref 23))
def T10n25 : XC := .seq (.ops [XS.mk (some 110) none (XI.k (XK.cmp BinOp.eql IntKind.i64 (Operand.tmp 49) (Operand.const (Value.int IntKind.i64 10)))), XS.mk (some 109) none (XI.k (XK.mov (Operand.tmp 110)))]) (.cond (Operand.tmp 109) (.ref 10) (.ref 24))
def T10n26 : XC := .seq (.ops [XS.mk (some 102) none (XI.k (XK.cmp BinOp.eql IntKind.i64 (Operand.tmp 49) (Operand.const (Value.int IntKind.i64 9)))), XS.mk (some 101) none (XI.k (XK.mov (Operand.tmp 102)))]) (.cond (Operand.tmp 101) (.ref 9) (.ref 25))
def T10n27 : XC := .seq (.ops [XS.mk (some 95) none (XI.k (XK.cmp BinOp.eql IntKind.i64 (Operand.tmp 49) (Operand.const (Value.int IntKind.i64 8)))), XS.mk (some 94) none (XI.k (XK.mov (Operand.tmp 95)))]) (.cond (Operand.tmp 94) (.ref 8) (.ref 26))
def T10n28 : XC := .seq (.ops [XS.mk (some 88) none (XI.k (XK.cmp BinOp.eql IntKind.i64 (Operand.tmp 49) (Operand.const (Value.int IntKind.i64 7)))), XS.mk (some 87) none (XI.k (XK.mov (Operand.tmp 88)))]) (.cond (Operand.tmp 87) (.ref 7) (.ref 27))
def T10n29 : XC := .seq (.ops [XS.mk (some 81) none (XI.k (XK.cmp BinOp.eql IntKind.i64 (Operand.tmp 49) (Operand.const (Value.int IntKind.i64 6)))), XS.mk (some 80) none (XI.k (XK.mov (Operand.tmp 81)))]) (.cond (Operand.tmp 80) (.ref 6) (.ref 28))
def T10n30 : XC := .seq (.ops [XS.mk (some 74) none (XI.k (XK.cmp BinOp.eql IntKind.i64 (Operand.tmp 49) (Operand.const (Value.int IntKind.i64 5)))), XS.mk (some 73) none (XI.k (XK.mov (Operand.tmp 74)))]) (.cond (Operand.tmp 73) (.ref 5) (.ref 29))
def T10n31 : XC := .seq (.ops [XS.mk (some 67) none (XI.k (XK.cmp BinOp.eql IntKind.i64 (Operand.tmp 49) (Operand.const (Value.int IntKind.i64 4)))), XS.mk (some 66) none (XI.k (XK.mov (Operand.tmp 67)))]) (.cond (Operand.tmp 66) (.ref 4) (.ref 30))
def T10n32 : XC := .seq (.ops [XS.mk (some 62) none (XI.k (XK.cmp BinOp.eql IntKind.i64 (Operand.tmp 49) (Operand.const (Value.int IntKind.i64 3)))), XS.mk (some 61) none (XI.k (XK.mov (Operand.tmp 62)))]) (.cond (Operand.tmp 61) (.ref 3) (.ref 31))
def T10n33 : XC := .seq (.ops [XS.mk (some 55) none (XI.k (XK.cmp BinOp.eql IntKind.i64 (Operand.tmp 49) (Operand.const (Value.int IntKind.i64 2)))), XS.mk (some 54) none (XI.k (XK.mov (Operand.tmp 55)))]) (.cond (Operand.tmp 54) (.ref 2) (.ref 32))
def T10n34 : XC := .blk 0 (.seq (.ops [XS.mk (some 51) none (XI.k (XK.cmp BinOp.eql IntKind.i64 (Operand.tmp 49) (Operand.const (Value.int IntKind.i64 1)))), XS.mk (some 50) none (XI.k (XK.mov (Operand.tmp 51)))]) (.cond (Operand.tmp 50) (.ref 1) (.ref 33)))
def T10n35 : XC := .seq (.ops [XS.mk (some 161) none (XI.k (XK.mov (Operand.tmp 9))), XS.mk (some 162) none (XI.callv (Operand.tmp 161) [Operand.const (Value.int IntKind.i64 6)]), XS.mk none none (XI.k (XK.store 5 (Operand.tmp 6) (Operand.tmp 162)))]) (.ret)
def T10n36 : XC := .seq (.seq (.ops [XS.mk (some 48) none (XI.k (XK.fld 0 (Operand.tmp 3))), XS.mk (some 49) none (XI.k (XK.load [CK.int IntKind.i64] false (Operand.tmp 48)))]) (.ref 34)) (.ref 35)
def T10n37 : XC := .seq (.ops [XS.mk (some 43) none (XI.k (XK.mov (Operand.tmp 12))), XS.mk (some 44) none (XI.k (XK.fld 4 (Operand.tmp 3))), XS.mk (some 45) none (XI.k (XK.load [CK.int IntKind.i64] false (Operand.tmp 44))), XS.mk (some 46) none (XI.k (XK.conv IntKind.u64 (Operand.tmp 45))), XS.mk (some 47) none (XI.k (XK.arith BinOp.add IntKind.u64 (Operand.tmp 43) (Operand.tmp 46))), XS.mk (some 14) none (XI.k (XK.mov (Operand.tmp 47)))]) (.ref 36)
def T10n38 : XC := .seq (.ops [XS.mk (some 31) none (XI.k (XK.mov (Operand.tmp 10))), XS.mk (some 32) none (XI.k (XK.fld 1 (Operand.tmp 3))), XS.mk (some 35) none (XI.k (XK.mov (Operand.tmp 10))), XS.mk (some 36) none (XI.k (XK.fld 2 (Operand.tmp 3))), XS.mk (some 39) none (XI.k (XK.mov (Operand.tmp 10))), XS.mk (some 40) none (XI.k (XK.fld 3 (Operand.tmp 3))), XS.mk (some 33) none (XI.k (XK.load [CK.int IntKind.i64] false (Operand.tmp 32))), XS.mk (some 37) none (XI.k (XK.load [CK.int IntKind.i64] false (Operand.tmp 36))), XS.mk (some 41) none (XI.k (XK.load [CK.int IntKind.i64] false (Operand.tmp 40))), XS.mk (some 34) none (XI.callv (Operand.tmp 31) [Operand.tmp 33]), XS.mk none none (XI.still 41 (XK.load [CK.int IntKind.i64] false (Operand.tmp 40))), XS.mk none none (XI.still 37 (XK.load [CK.int IntKind.i64] false (Operand.tmp 36))), XS.mk (some 38) none (XI.callv (Operand.tmp 35) [Operand.tmp 37]), XS.mk none none (XI.still 41 (XK.load [CK.int IntKind.i64] false (Operand.tmp 40))), XS.mk (some 42) none (XI.callv (Operand.tmp 39) [Operand.tmp 41]), XS.mk (some 11) none (XI.k (XK.mov (Operand.tmp 34))), XS.mk (some 12) none (XI.k (XK.mov (Operand.tmp 38))), XS.mk (some 13) none (XI.k (XK.mov (Operand.tmp 42)))]) (.ref 37)
def T10n39 : XC := .seq (.ops [XS.mk (some 30) none (XI.k (XK.mkfn (Fn.func 28) [] [Operand.tmp 4])), XS.mk (some 10) none (XI.k (XK.mov (Operand.tmp 30)))]) (.ref 38)
def T10n40 : XC := .seq (.ops [XS.mk (some 29) none (XI.k (XK.mkfn (Fn.func 27) [] [Operand.tmp 5])), XS.mk (some 9) none (XI.k (XK.mov (Operand.tmp 29)))]) (.ref 39)
def T10n41 : XC := .seq (.ops [XS.mk (some 28) none (XI.k (XK.mkfn (Fn.func 26) [] [Operand.tmp 5, Operand.tmp 3])), XS.mk (some 8) none (XI.k (XK.mov (Operand.tmp 28)))]) (.ref 40)
def T10n42 : XC := .seq (.ops [XS.mk (some 27) none (XI.k (XK.mkfn (Fn.func 25) [] [Operand.tmp 5, Operand.tmp 3])), XS.mk (some 7) none (XI.k (XK.mov (Operand.tmp 27)))]) (.ref 41)
def T10n43 : XC := .seq (.seq (.ops [XS.mk (some 15) none (XI.k (XK.load [CK.int IntKind.i64, CK.int IntKind.i64, CK.int IntKind.i64, CK.int IntKind.i64, CK.int IntKind.i64] true (Operand.tmp 3))), XS.mk (some 16) none (XI.call 12 [Operand.tmp 15]), XS.mk (some 17) none (XI.k (XK.not (Operand.tmp 16))), XS.mk (some 18) none (XI.k (XK.mov (Operand.tmp 17))), XS.mk (some 19) (some (18, false)) (XI.k (XK.load [CK.int IntKind.i64] false (Operand.tmp 5))), XS.mk (some 20) (some (18, false)) (XI.k (XK.cmp BinOp.lss IntKind.i64 (Operand.tmp 19) (Operand.const (Value.int IntKind.i64 0)))), XS.mk (some 21) none (XI.k (XK.pick (Operand.tmp 18) (Operand.const (Value.bool true)) (Operand.tmp 20))), XS.mk (some 22) none (XI.k (XK.mov (Operand.tmp 21))), XS.mk (some 23) (some (22, false)) (XI.k (XK.load [CK.int IntKind.i64] false (Operand.tmp 5))), XS.mk (some 24) (some (22, false)) (XI.k (XK.cmp BinOp.geq IntKind.i64 (Operand.tmp 23) (Operand.const (Value.int IntKind.i64 1024)))), XS.mk (some 25) none (XI.k (XK.pick (Operand.tmp 22) (Operand.const (Value.bool true)) (Operand.tmp 24)))]) (.cond (Operand.tmp 25) (.ref 0) (.skip))) (.ref 42)
def T10 : Nat → XC
  | 0 => T10n0
  | 1 => T10n1
  | 2 => T10n2
  | 3 => T10n3
  | 4 => T10n4
  | 5 => T10n5
  | 6 => T10n6
  | 7 => T10n7
  | 8 => T10n8
  | 9 => T10n9
  | 10 => T10n10
  | 11 => T10n11
  | 12 => T10n12
  | 13 => T10n13
  | 14 => T10n14
  | 15 => T10n15
  | 16 => T10n16
  | 17 => T10n17
  | 18 => T10n18
  | 19 => T10n19
  | 20 => T10n20
  | 21 => T10n21
  | 22 => T10n22
  | 23 => T10n23
  | 24 => T10n24
  | 25 => T10n25
  | 26 => T10n26
  | 27 => T10n27
  | 28 => T10n28
  | 29 => T10n29
  | 30 => T10n30
  | 31 => T10n31
  | 32 => T10n32
  | 33 => T10n33
  | 34 => T10n34
  | 35 => T10n35
  | 36 => T10n36
  | 37 => T10n37
  | 38 => T10n38
  | 39 => T10n39
  | 40 => T10n40
  | 41 => T10n41
  | 42 => T10n42
  | 43 => T10n43
  | _ => .skip
theorem t10n0 : T10 0 = T10n0 := rfl
theorem t10n1 : T10 1 = T10n1 := rfl
theorem t10n2 : T10 2 = T10n2 := rfl
theorem t10n3 : T10 3 = T10n3 := rfl
theorem t10n4 : T10 4 = T10n4 := rfl
theorem t10n5 : T10 5 = T10n5 := rfl
theorem t10n6 : T10 6 = T10n6 := rfl
theorem t10n7 : T10 7 = T10n7 := rfl
theorem t10n8 : T10 8 = T10n8 := rfl
theorem t10n9 : T10 9 = T10n9 := rfl
theorem t10n10 : T10 10 = T10n10 := rfl
theorem t10n11 : T10 11 = T10n11 := rfl
theorem t10n12 : T10 12 = T10n12 := rfl
theorem t10n13 : T10 13 = T10n13 := rfl
theorem t10n14 : T10 14 = T10n14 := rfl
theorem t10n15 : T10 15 = T10n15 := rfl
theorem t10n16 : T10 16 = T10n16 := rfl
theorem t10n17 : T10 17 = T10n17 := rfl
theorem t10n18 : T10 18 = T10n18 := rfl
theorem t10n19 : T10 19 = T10n19 := rfl
theorem t10n20 : T10 20 = T10n20 := rfl
theorem t10n21 : T10 21 = T10n21 := rfl
theorem t10n22 : T10 22 = T10n22 := rfl
theorem t10n23 : T10 23 = T10n23 := rfl
theorem t10n24 : T10 24 = T10n24 := rfl
theorem t10n25 : T10 25 = T10n25 := rfl
theorem t10n26 : T10 26 = T10n26 := rfl
theorem t10n27 : T10 27 = T10n27 := rfl
theorem t10n28 : T10 28 = T10n28 := rfl
theorem t10n29 : T10 29 = T10n29 := rfl
theorem t10n30 : T10 30 = T10n30 := rfl
theorem t10n31 : T10 31 = T10n31 := rfl
theorem t10n32 : T10 32 = T10n32 := rfl
theorem t10n33 : T10 33 = T10n33 := rfl
theorem t10n34 : T10 34 = T10n34 := rfl
theorem t10n35 : T10 35 = T10n35 := rfl
theorem t10n36 : T10 36 = T10n36 := rfl
theorem t10n37 : T10 37 = T10n37 := rfl
theorem t10n38 : T10 38 = T10n38 := rfl
theorem t10n39 : T10 39 = T10n39 := rfl
theorem t10n40 : T10 40 = T10n40 := rfl
theorem t10n41 : T10 41 = T10n41 := rfl
theorem t10n42 : T10 42 = T10n42 := rfl
theorem t10n43 : T10 43 = T10n43 := rfl
def X10 : XC := .seq (.ops [XS.mk (some 3) none (XI.k (XK.box 23 5 (Operand.tmp 0))), XS.mk (some 4) none (XI.k (XK.box 25 8 (Operand.tmp 1))), XS.mk (some 5) none (XI.k (XK.box 3 1 (Operand.tmp 2))), XS.mk (some 6) none (XI.k (XK.alloc 27 [Value.int IntKind.i64 0, Value.int IntKind.i64 0, Value.int IntKind.i64 0, Value.int IntKind.u64 0, Value.int IntKind.u64 0]))]) (.ref 43)
abbrev K10 : List Nat := [0, 1, 2, 3, 4, 5, 6, 7, 8, 9, 10, 11, 12, 13, 14, 25, 49, 50, 54, 61, 66, 73, 80, 87, 94, 101, 109, 117, 125, 132, 136, 143, 150, 157]
theorem n10 : Tryd.f10.ntmps = 163 := by kernel_rfl
theorem r10 : rvOf Tryd.prog Tryd.f10.results.toList = some [RV.cell 6 5 true] := by kernel_rfl
theorem x10 : cmpF Tryd.prog Tryd.f10 = some (expand T10 45 X10) := by kernel_rfl
def T11n0 : XC := .seq (.ops [XS.mk (some 34) none (XI.k (XK.build [Value.int IntKind.i64 0, Value.int IntKind.i64 0, Value.int IntKind.i64 0, Value.int IntKind.u64 0, Value.int IntKind.u64 0] [])), XS.mk none none (XI.k (XK.store 5 (Operand.tmp 6) (Operand.tmp 34)))]) (.ret)
def T11n1 : XC := .ops [XS.mk (some 37) none (XI.k (XK.fld 1 (Operand.tmp 3))), XS.mk (some 38) none (XI.k (XK.load [CK.int IntKind.i64] false (Operand.tmp 37))), XS.mk (some 39) none (XI.k (XK.idxA 8 1 (Operand.tmp 4) (Operand.tmp 38))), XS.mk (some 40) none (XI.k (XK.load [CK.int IntKind.u64] false (Operand.tmp 39))), XS.mk (some 9) none (XI.k (XK.mov (Operand.tmp 40)))]
def T11n2 : XC := .ops [XS.mk (some 43) none (XI.k (XK.fld 2 (Operand.tmp 3))), XS.mk (some 44) none (XI.k (XK.load [CK.int IntKind.i64] false (Operand.tmp 43))), XS.mk (some 45) none (XI.k (XK.idxA 8 1 (Operand.tmp 4) (Operand.tmp 44))), XS.mk (some 46) none (XI.k (XK.load [CK.int IntKind.u64] false (Operand.tmp 45))), XS.mk (some 10) none (XI.k (XK.mov (Operand.tmp 46)))]
def T11n3 : XC := .ops [XS.mk (some 49) none (XI.k (XK.fld 3 (Operand.tmp 3))), XS.mk (some 50) none (XI.k (XK.load [CK.int IntKind.i64] false (Operand.tmp 49))), XS.mk (some 51) none (XI.k (XK.idxA 8 1 (Operand.tmp 4) (Operand.tmp 50))), XS.mk (some 52) none (XI.k (XK.load [CK.int IntKind.u64] false (Operand.tmp 51))), XS.mk (some 11) none (XI.k (XK.mov (Operand.tmp 52)))]
def T11n4 : XC := .ops [XS.mk (some 65) none (XI.k (XK.fld 4 (Operand.tmp 3))), XS.mk (some 66) none (XI.k (XK.load [CK.int IntKind.i64] false (Operand.tmp 65))), XS.mk (some 67) none (XI.k (XK.conv IntKind.u64 (Operand.tmp 66))), XS.mk (some 68) none (XI.k (XK.fld 3 (Operand.tmp 12))), XS.mk none none (XI.k (XK.store 1 (Operand.tmp 68) (Operand.tmp 67)))]
def T11n5 : XC := .ops [XS.mk (some 71) none (XI.k (XK.mov (Operand.tmp 10))), XS.mk (some 72) none (XI.k (XK.fld 3 (Operand.tmp 12))), XS.mk none none (XI.k (XK.store 1 (Operand.tmp 72) (Operand.tmp 71)))]
def T11n6 : XC := .ops [XS.mk (some 75) none (XI.k (XK.mov (Operand.tmp 10))), XS.mk (some 76) none (XI.k (XK.mov (Operand.tmp 11))), XS.mk (some 77) none (XI.k (XK.arith BinOp.add IntKind.u64 (Operand.tmp 75) (Operand.tmp 76))), XS.mk (some 78) none (XI.k (XK.fld 3 (Operand.tmp 12))), XS.mk none none (XI.k (XK.store 1 (Operand.tmp 78) (Operand.tmp 77)))]
def T11n7 : XC := .ops [XS.mk (some 81) none (XI.k (XK.mov (Operand.tmp 10))), XS.mk (some 82) none (XI.k (XK.mov (Operand.tmp 11))), XS.mk (some 83) none (XI.k (XK.arith BinOp.sub IntKind.u64 (Operand.tmp 81) (Operand.tmp 82))), XS.mk (some 84) none (XI.k (XK.fld 3 (Operand.tmp 12))), XS.mk none none (XI.k (XK.store 1 (Operand.tmp 84) (Operand.tmp 83)))]
def T11n8 : XC := .ops [XS.mk (some 87) none (XI.k (XK.mov (Operand.tmp 10))), XS.mk (some 88) none (XI.k (XK.mov (Operand.tmp 11))), XS.mk (some 89) none (XI.k (XK.arith BinOp.mul IntKind.u64 (Operand.tmp 87) (Operand.tmp 88))), XS.mk (some 90) none (XI.k (XK.fld 3 (Operand.tmp 12))), XS.mk none none (XI.k (XK.store 1 (Operand.tmp 90) (Operand.tmp 89)))]
def T11n9 : XC := .ops [XS.mk (some 93) none (XI.k (XK.mov (Operand.tmp 10))), XS.mk (some 94) none (XI.k (XK.mov (Operand.tmp 11))), XS.mk (some 95) none (XI.k (XK.bits BinOp.and IntKind.u64 (Operand.tmp 93) (Operand.tmp 94))), XS.mk (some 96) none (XI.k (XK.fld 3 (Operand.tmp 12))), XS.mk none none (XI.k (XK.store 1 (Operand.tmp 96) (Operand.tmp 95)))]
def T11n10 : XC := .ops [XS.mk (some 99) none (XI.k (XK.mov (Operand.tmp 10))), XS.mk (some 100) none (XI.k (XK.mov (Operand.tmp 11))), XS.mk (some 101) none (XI.k (XK.bits BinOp.xor IntKind.u64 (Operand.tmp 99) (Operand.tmp 100))), XS.mk (some 102) none (XI.k (XK.fld 3 (Operand.tmp 12))), XS.mk none none (XI.k (XK.store 1 (Operand.tmp 102) (Operand.tmp 101)))]
def T11n11 : XC := .cond (Operand.tmp 103) (.skip) (.ops [XS.mk (some 105) none (XI.k (XK.cmp BinOp.eql IntKind.i64 (Operand.tmp 59) (Operand.const (Value.int IntKind.i64 10)))), XS.mk (some 103) none (XI.k (XK.mov (Operand.tmp 105)))])
def T11n12 : XC := .ops [XS.mk (some 106) none (XI.k (XK.mov (Operand.tmp 10))), XS.mk (some 107) none (XI.k (XK.mov (Operand.tmp 11))), XS.mk (some 108) none (XI.k (XK.fld 0 (Operand.tmp 3))), XS.mk (some 109) none (XI.k (XK.load [CK.int IntKind.i64] false (Operand.tmp 108))), XS.mk (some 110) none (XI.k (XK.cmp BinOp.eql IntKind.i64 (Operand.tmp 109) (Operand.const (Value.int IntKind.i64 9)))), XS.mk (some 111) none (XI.call 30 [Operand.tmp 106, Operand.tmp 107, Operand.tmp 110]), XS.mk (some 112) none (XI.k (XK.fld 3 (Operand.tmp 12))), XS.mk none none (XI.k (XK.store 1 (Operand.tmp 112) (Operand.tmp 111)))]
def T11n13 : XC := .ops [XS.mk (some 116) none (XI.k (XK.mov (Operand.tmp 10))), XS.mk (some 117) none (XI.k (XK.fld 4 (Operand.tmp 3))), XS.mk (some 118) none (XI.k (XK.load [CK.int IntKind.i64] false (Operand.tmp 117))), XS.mk (some 119) none (XI.k (XK.conv IntKind.u64 (Operand.tmp 118))), XS.mk (some 120) none (XI.k (XK.arith BinOp.add IntKind.u64 (Operand.tmp 116) (Operand.tmp 119))), XS.mk (some 121) none (XI.k (XK.fld 4 (Operand.tmp 12))), XS.mk none none (XI.k (XK.store 1 (Operand.tmp 121) (Operand.tmp 120)))]
def T11n14 : XC := .seq (.ops [XS.mk (some 115) none (XI.k (XK.fld 0 (Operand.tmp 12))), XS.mk none none (XI.k (XK.store 1 (Operand.tmp 115) (Operand.const (Value.int IntKind.i64 3))))]) (.ref 13)
def T11n15 : XC := .ops [XS.mk (some 124) none (XI.k (XK.mov (Operand.tmp 2))), XS.mk (some 125) none (XI.k (XK.arith BinOp.add IntKind.i64 (Operand.tmp 124) (Operand.const (Value.int IntKind.i64 1)))), XS.mk (some 126) none (XI.k (XK.mov (Operand.tmp 9))), XS.mk (some 127) none (XI.k (XK.mov (Operand.tmp 10))), XS.mk (some 128) none (XI.k (XK.fld 4 (Operand.tmp 3))), XS.mk (some 129) none (XI.k (XK.load [CK.int IntKind.i64] false (Operand.tmp 128))), XS.mk (some 130) none (XI.k (XK.conv IntKind.u64 (Operand.tmp 129))), XS.mk (some 131) none (XI.k (XK.arith BinOp.add IntKind.u64 (Operand.tmp 127) (Operand.tmp 130))), XS.mk (some 132) none (XI.k (XK.build [Value.int IntKind.i64 0, Value.int IntKind.i64 0, Value.int IntKind.i64 0, Value.int IntKind.u64 0, Value.int IntKind.u64 0] [(0, 1, Operand.const (Value.int IntKind.i64 4)), (1, 1, Operand.tmp 125), (3, 1, Operand.tmp 126), (4, 1, Operand.tmp 131)])), XS.mk none none (XI.k (XK.store 5 (Operand.tmp 12) (Operand.tmp 132)))]
def T11n16 : XC := .cond (Operand.tmp 133) (.skip) (.ops [XS.mk (some 137) none (XI.k (XK.cmp BinOp.eql IntKind.i64 (Operand.tmp 59) (Operand.const (Value.int IntKind.i64 16)))), XS.mk (some 133) none (XI.k (XK.mov (Operand.tmp 137)))])
def T11n17 : XC := .seq (.ops [XS.mk (some 136) none (XI.k (XK.cmp BinOp.eql IntKind.i64 (Operand.tmp 59) (Operand.const (Value.int IntKind.i64 15)))), XS.mk (some 133) none (XI.k (XK.mov (Operand.tmp 136)))]) (.ref 16)
def T11n18 : XC := .seq (.ops [XS.mk (some 135) none (XI.k (XK.cmp BinOp.eql IntKind.i64 (Operand.tmp 59) (Operand.const (Value.int IntKind.i64 14)))), XS.mk (some 133) none (XI.k (XK.mov (Operand.tmp 135)))]) (.cond (Operand.tmp 133) (.skip) (.ref 17))
def T11n19 : XC := .seq (.ops [XS.mk (some 185) none (XI.k (XK.build [Value.int IntKind.i64 0, Value.int IntKind.i64 0, Value.int IntKind.i64 0, Value.int IntKind.u64 0, Value.int IntKind.u64 0] [])), XS.mk none none (XI.k (XK.store 5 (Operand.tmp 6) (Operand.tmp 185)))]) (.ret)
def T11n20 : XC := .seq (.ops [XS.mk (some 177) none (XI.k (XK.fld 4 (Operand.tmp 3))), XS.mk (some 178) none (XI.k (XK.load [CK.int IntKind.i64] false (Operand.tmp 177))), XS.mk (some 179) none (XI.k (XK.cmp BinOp.lss IntKind.i64 (Operand.tmp 178) (Operand.const (Value.int IntKind.i64 0)))), XS.mk (some 180) none (XI.k (XK.mov (Operand.tmp 179))), XS.mk (some 181) (some (180, false)) (XI.k (XK.fld 4 (Operand.tmp 3))), XS.mk (some 182) (some (180, false)) (XI.k (XK.load [CK.int IntKind.i64] false (Operand.tmp 181))), XS.mk (some 183) (some (180, false)) (XI.k (XK.cmp BinOp.gtr IntKind.i64 (Operand.tmp 182) (Operand.const (Value.int IntKind.i64 1024)))), XS.mk (some 184) none (XI.k (XK.pick (Operand.tmp 180) (Operand.const (Value.bool true)) (Operand.tmp 183)))]) (.cond (Operand.tmp 184) (.ref 19) (.skip))
def T11n21 : XC := .seq (.ops [XS.mk (some 174) none (XI.k (XK.fld 4 (Operand.tmp 3))), XS.mk (some 175) none (XI.k (XK.load [CK.int IntKind.i64] false (Operand.tmp 174))), XS.mk (some 176) none (XI.k (XK.fld 1 (Operand.tmp 12))), XS.mk none none (XI.k (XK.store 1 (Operand.tmp 176) (Operand.tmp 175)))]) (.ref 20)
def T11n22 : XC := .seq (.ops [XS.mk (some 141) none (XI.k (XK.fld 0 (Operand.tmp 3))), XS.mk (some 142) none (XI.k (XK.load [CK.int IntKind.i64] false (Operand.tmp 141))), XS.mk (some 143) none (XI.k (XK.cmp BinOp.eql IntKind.i64 (Operand.tmp 142) (Operand.const (Value.int IntKind.i64 13)))), XS.mk (some 144) none (XI.k (XK.mov (Operand.tmp 143))), XS.mk (some 145) (some (144, false)) (XI.k (XK.fld 0 (Operand.tmp 3))), XS.mk (some 146) (some (144, false)) (XI.k (XK.load [CK.int IntKind.i64] false (Operand.tmp 145))), XS.mk (some 147) (some (144, false)) (XI.k (XK.cmp BinOp.eql IntKind.i64 (Operand.tmp 146) (Operand.const (Value.int IntKind.i64 14)))), XS.mk (some 148) (some (144, false)) (XI.k (XK.mov (Operand.tmp 147))), XS.mk (some 149) (some (148, true)) (XI.k (XK.mov (Operand.tmp 9))), XS.mk (some 150) (some (148, true)) (XI.k (XK.mov (Operand.tmp 10))), XS.mk (some 151) (some (148, true)) (XI.k (XK.cmp BinOp.eql IntKind.u64 (Operand.tmp 149) (Operand.tmp 150))), XS.mk (some 152) (some (144, false)) (XI.k (XK.pick (Operand.tmp 148) (Operand.tmp 151) (Operand.const (Value.bool false)))), XS.mk (some 153) none (XI.k (XK.pick (Operand.tmp 144) (Operand.const (Value.bool true)) (Operand.tmp 152))), XS.mk (some 154) none (XI.k (XK.mov (Operand.tmp 153))), XS.mk (some 155) (some (154, false)) (XI.k (XK.fld 0 (Operand.tmp 3))), XS.mk (some 156) (some (154, false)) (XI.k (XK.load [CK.int IntKind.i64] false (Operand.tmp 155))), XS.mk (some 157) (some (154, false)) (XI.k (XK.cmp BinOp.eql IntKind.i64 (Operand.tmp 156) (Operand.const (Value.int IntKind.i64 15)))), XS.mk (some 158) (some (154, false)) (XI.k (XK.mov (Operand.tmp 157))), XS.mk (some 159) (some (158, true)) (XI.k (XK.mov (Operand.tmp 9))), XS.mk (some 160) (some (158, true)) (XI.k (XK.mov (Operand.tmp 10))), XS.mk (some 161) (some (158, true)) (XI.k (XK.cmp BinOp.neq IntKind.u64 (Operand.tmp 159) (Operand.tmp 160))), XS.mk (some 162) (some (154, false)) (XI.k (XK.pick (Operand.tmp 158) (Operand.tmp 161) (Operand.const (Value.bool false)))), XS.mk (some 163) none (XI.k (XK.pick (Operand.tmp 154) (Operand.const (Value.bool true)) (Operand.tmp 162))), XS.mk (some 164) none (XI.k (XK.mov (Operand.tmp 163))), XS.mk (some 165) (some (164, false)) (XI.k (XK.fld 0 (Operand.tmp 3))), XS.mk (some 166) (some (164, false)) (XI.k (XK.load [CK.int IntKind.i64] false (Operand.tmp 165))), XS.mk (some 167) (some (164, false)) (XI.k (XK.cmp BinOp.eql IntKind.i64 (Operand.tmp 166) (Operand.const (Value.int IntKind.i64 16)))), XS.mk (some 168) (some (164, false)) (XI.k (XK.mov (Operand.tmp 167))), XS.mk (some 169) (some (168, true)) (XI.k (XK.mov (Operand.tmp 9))), XS.mk (some 170) (some (168, true)) (XI.k (XK.mov (Operand.tmp 10))), XS.mk (some 171) (some (168, true)) (XI.k (XK.cmp BinOp.lss IntKind.u64 (Operand.tmp 169) (Operand.tmp 170))), XS.mk (some 172) (some (164, false)) (XI.k (XK.pick (Operand.tmp 168) (Operand.tmp 171) (Operand.const (Value.bool false)))), XS.mk (some 173) none (XI.k (XK.pick (Operand.tmp 164) (Operand.const (Value.bool true)) (Operand.tmp 172)))]) (.cond (Operand.tmp 173) (.ref 21) (.skip))
def T11n23 : XC := .seq (.ops [XS.mk (some 138) none (XI.k (XK.mov (Operand.tmp 2))), XS.mk (some 139) none (XI.k (XK.arith BinOp.add IntKind.i64 (Operand.tmp 138) (Operand.const (Value.int IntKind.i64 1)))), XS.mk (some 140) none (XI.k (XK.build [Value.int IntKind.i64 0, Value.int IntKind.i64 0, Value.int IntKind.i64 0, Value.int IntKind.u64 0, Value.int IntKind.u64 0] [(0, 1, Operand.const (Value.int IntKind.i64 2)), (1, 1, Operand.tmp 139)])), XS.mk none none (XI.k (XK.store 5 (Operand.tmp 12) (Operand.tmp 140)))]) (.ref 22)
def T11n24 : XC := .ops [XS.mk (some 188) none (XI.k (XK.mov (Operand.tmp 2))), XS.mk (some 189) none (XI.k (XK.arith BinOp.add IntKind.i64 (Operand.tmp 188) (Operand.const (Value.int IntKind.i64 1)))), XS.mk (some 190) none (XI.k (XK.build [Value.int IntKind.i64 0, Value.int IntKind.i64 0, Value.int IntKind.i64 0, Value.int IntKind.u64 0, Value.int IntKind.u64 0] [(0, 1, Operand.const (Value.int IntKind.i64 5)), (1, 1, Operand.tmp 189)])), XS.mk none none (XI.k (XK.store 5 (Operand.tmp 12) (Operand.tmp 190)))]
def T11n25 : XC := .ops [XS.mk (some 193) none (XI.k (XK.mov (Operand.tmp 2))), XS.mk (some 194) none (XI.k (XK.arith BinOp.add IntKind.i64 (Operand.tmp 193) (Operand.const (Value.int IntKind.i64 1)))), XS.mk (some 195) none (XI.k (XK.build [Value.int IntKind.i64 0, Value.int IntKind.i64 0, Value.int IntKind.i64 0, Value.int IntKind.u64 0, Value.int IntKind.u64 0] [(0, 1, Operand.const (Value.int IntKind.i64 6)), (1, 1, Operand.tmp 194)])), XS.mk none none (XI.k (XK.store 5 (Operand.tmp 12) (Operand.tmp 195)))]
def T11n26 : XC := .ops [XS.mk (some 60) none (XI.k (XK.mov (Operand.tmp 2))), XS.mk (some 61) none (XI.k (XK.arith BinOp.add IntKind.i64 (Operand.tmp 60) (Operand.const (Value.int IntKind.i64 1)))), XS.mk (some 62) none (XI.k (XK.build [Value.int IntKind.i64 0, Value.int IntKind.i64 0, Value.int IntKind.i64 0, Value.int IntKind.u64 0, Value.int IntKind.u64 0] [(0, 1, Operand.const (Value.int IntKind.i64 7)), (1, 1, Operand.tmp 61)])), XS.mk none none (XI.k (XK.store 5 (Operand.tmp 12) (Operand.tmp 62)))]
def T11n27 : XC := .seq (.ops [XS.mk (some 192) none (XI.k (XK.cmp BinOp.eql IntKind.i64 (Operand.tmp 59) (Operand.const (Value.int IntKind.i64 18)))), XS.mk (some 191) none (XI.k (XK.mov (Operand.tmp 192)))]) (.cond (Operand.tmp 191) (.ref 25) (.ref 26))
def T11n28 : XC := .seq (.ops [XS.mk (some 187) none (XI.k (XK.cmp BinOp.eql IntKind.i64 (Operand.tmp 59) (Operand.const (Value.int IntKind.i64 17)))), XS.mk (some 186) none (XI.k (XK.mov (Operand.tmp 187)))]) (.cond (Operand.tmp 186) (.ref 24) (.ref 27))
def T11n29 : XC := .seq (.seq (.ops [XS.mk (some 134) none (XI.k (XK.cmp BinOp.eql IntKind.i64 (Operand.tmp 59) (Operand.const (Value.int IntKind.i64 13)))), XS.mk (some 133) none (XI.k (XK.mov (Operand.tmp 134)))]) (.cond (Operand.tmp 133) (.skip) (.ref 18))) (.cond (Operand.tmp 133) (.ref 23) (.ref 28))
def T11n30 : XC := .seq (.ops [XS.mk (some 123) none (XI.k (XK.cmp BinOp.eql IntKind.i64 (Operand.tmp 59) (Operand.const (Value.int IntKind.i64 12)))), XS.mk (some 122) none (XI.k (XK.mov (Operand.tmp 123)))]) (.cond (Operand.tmp 122) (.ref 15) (.ref 29))
def T11n31 : XC := .seq (.ops [XS.mk (some 114) none (XI.k (XK.cmp BinOp.eql IntKind.i64 (Operand.tmp 59) (Operand.const (Value.int IntKind.i64 11)))), XS.mk (some 113) none (XI.k (XK.mov (Operand.tmp 114)))]) (.cond (Operand.tmp 113) (.ref 14) (.ref 30))
def T11n32 : XC := .seq (.seq (.ops [XS.mk (some 104) none (XI.k (XK.cmp BinOp.eql IntKind.i64 (Operand.tmp 59) (Operand.const (Value.int IntKind.i64 9)))), XS.mk (some 103) none (XI.k (XK.mov (Operand.tmp 104)))]) (.ref 11)) (.cond (Operand.tmp 103) (.ref 12) (.ref 31))
def T11n33 : XC := .seq (.ops [XS.mk (some 98) none (XI.k (XK.cmp BinOp.eql IntKind.i64 (Operand.tmp 59) (Operand.const (Value.int IntKind.i64 8)))), XS.mk (some 97) none (XI.k (XK.mov (Operand.tmp 98)))]) (.cond (Operand.tmp 97) (.ref 10) (.ref 32))
def T11n34 : XC := .seq (.ops [XS.mk (some 92) none (XI.k (XK.cmp BinOp.eql IntKind.i64 (Operand.tmp 59) (Operand.const (Value.int IntKind.i64 7)))), XS.mk (some 91) none (XI.k (XK.mov (Operand.tmp 92)))]) (.cond (Operand.tmp 91) (.ref 9) (.ref 33))
def T11n35 : XC := .seq (.ops [XS.mk (some 86) none (XI.k (XK.cmp BinOp.eql IntKind.i64 (Operand.tmp 59) (Operand.const (Value.int IntKind.i64 6)))), XS.mk (some 85) none (XI.k (XK.mov (Operand.tmp 86)))]) (.cond (Operand.tmp 85) (.ref 8) (.ref 34))
def T11n36 : XC := .seq (.ops [XS.mk (some 80) none (XI.k (XK.cmp BinOp.eql IntKind.i64 (Operand.tmp 59) (Operand.const (Value.int IntKind.i64 5)))), XS.mk (some 79) none (XI.k (XK.mov (Operand.tmp 80)))]) (.cond (Operand.tmp 79) (.ref 7) (.ref 35))
def T11n37 : XC := .seq (.ops [XS.mk (some 74) none (XI.k (XK.cmp BinOp.eql IntKind.i64 (Operand.tmp 59) (Operand.const (Value.int IntKind.i64 4)))), XS.mk (some 73) none (XI.k (XK.mov (Operand.tmp 74)))]) (.cond (Operand.tmp 73) (.ref 6) (.ref 36))
def T11n38 : XC := .seq (.ops [XS.mk (some 70) none (XI.k (XK.cmp BinOp.eql IntKind.i64 (Operand.tmp 59) (Operand.const (Value.int IntKind.i64 3)))), XS.mk (some 69) none (XI.k (XK.mov (Operand.tmp 70)))]) (.cond (Operand.tmp 69) (.ref 5) (.ref 37))
def T11n39 : XC := .blk 0 (.seq (.ops [XS.mk (some 64) none (XI.k (XK.cmp BinOp.eql IntKind.i64 (Operand.tmp 59) (Operand.const (Value.int IntKind.i64 2)))), XS.mk (some 63) none (XI.k (XK.mov (Operand.tmp 64)))]) (.cond (Operand.tmp 63) (.ref 4) (.ref 38)))
def T11n40 : XC := .seq (.ops [XS.mk (some 196) none (XI.k (XK.load [CK.int IntKind.i64, CK.int IntKind.i64, CK.int IntKind.i64, CK.int IntKind.u64, CK.int IntKind.u64] true (Operand.tmp 12))), XS.mk none none (XI.k (XK.store 5 (Operand.tmp 6) (Operand.tmp 196)))]) (.ret)
def T11n41 : XC := .seq (.seq (.ops [XS.mk (some 58) none (XI.k (XK.fld 0 (Operand.tmp 3))), XS.mk (some 59) none (XI.k (XK.load [CK.int IntKind.i64] false (Operand.tmp 58)))]) (.ref 39)) (.ref 40)
def T11n42 : XC := .seq (.ops [XS.mk (some 53) none (XI.k (XK.mov (Operand.tmp 2))), XS.mk (some 54) none (XI.k (XK.arith BinOp.add IntKind.i64 (Operand.tmp 53) (Operand.const (Value.int IntKind.i64 1)))), XS.mk (some 55) none (XI.k (XK.fld 1 (Operand.tmp 3))), XS.mk (some 56) none (XI.k (XK.load [CK.int IntKind.i64] false (Operand.tmp 55))), XS.mk (some 57) none (XI.k (XK.build [Value.int IntKind.i64 0, Value.int IntKind.i64 0, Value.int IntKind.i64 0, Value.int IntKind.u64 0, Value.int IntKind.u64 0] [(0, 1, Operand.const (Value.int IntKind.i64 1)), (1, 1, Operand.tmp 54), (2, 1, Operand.tmp 56)])), XS.mk (some 12) none (XI.k (XK.alloc 27 [Value.int IntKind.i64 0, Value.int IntKind.i64 0, Value.int IntKind.i64 0, Value.int IntKind.u64 0, Value.int IntKind.u64 0])), XS.mk none none (XI.k (XK.store 5 (Operand.tmp 12) (Operand.tmp 57)))]) (.ref 41)
def T11n43 : XC := .seq (.seq (.ops [XS.mk (some 47) none (XI.k (XK.fld 3 (Operand.tmp 7))), XS.mk (some 48) none (XI.k (XK.load [CK.bool] false (Operand.tmp 47)))]) (.cond (Operand.tmp 48) (.ref 3) (.skip))) (.ref 42)
def T11n44 : XC := .seq (.seq (.ops [XS.mk (some 41) none (XI.k (XK.fld 2 (Operand.tmp 7))), XS.mk (some 42) none (XI.k (XK.load [CK.bool] false (Operand.tmp 41)))]) (.cond (Operand.tmp 42) (.ref 2) (.skip))) (.ref 43)
def T11n45 : XC := .seq (.seq (.ops [XS.mk (some 35) none (XI.k (XK.fld 1 (Operand.tmp 7))), XS.mk (some 36) none (XI.k (XK.load [CK.bool] false (Operand.tmp 35)))]) (.cond (Operand.tmp 36) (.ref 1) (.skip))) (.ref 44)
def T11n46 : XC := .seq (.ops [XS.mk (some 9) none (XI.k (XK.mov (Operand.const (Value.int IntKind.u64 0)))), XS.mk (some 10) none (XI.k (XK.mov (Operand.const (Value.int IntKind.u64 0)))), XS.mk (some 11) none (XI.k (XK.mov (Operand.const (Value.int IntKind.u64 0))))]) (.ref 45)
def T11n47 : XC := .seq (.seq (.ops [XS.mk (some 19) none (XI.k (XK.mov (Operand.tmp 8))), XS.mk (some 20) none (XI.k (XK.not (Operand.tmp 19))), XS.mk (some 21) none (XI.k (XK.mov (Operand.tmp 20))), XS.mk (some 22) (some (21, false)) (XI.k (XK.load [CK.int IntKind.i64, CK.int IntKind.i64, CK.int IntKind.i64, CK.int IntKind.i64, CK.int IntKind.i64] true (Operand.tmp 3))), XS.mk (some 23) (some (21, false)) (XI.call 13 [Operand.tmp 22]), XS.mk (some 24) (some (21, false)) (XI.k (XK.not (Operand.tmp 23))), XS.mk (some 25) none (XI.k (XK.pick (Operand.tmp 21) (Operand.const (Value.bool true)) (Operand.tmp 24))), XS.mk (some 26) none (XI.k (XK.mov (Operand.tmp 25))), XS.mk (some 27) (some (26, false)) (XI.k (XK.mov (Operand.tmp 2))), XS.mk (some 28) (some (26, false)) (XI.k (XK.cmp BinOp.lss IntKind.i64 (Operand.tmp 27) (Operand.const (Value.int IntKind.i64 0)))), XS.mk (some 29) none (XI.k (XK.pick (Operand.tmp 26) (Operand.const (Value.bool true)) (Operand.tmp 28))), XS.mk (some 30) none (XI.k (XK.mov (Operand.tmp 29))), XS.mk (some 31) (some (30, false)) (XI.k (XK.mov (Operand.tmp 2))), XS.mk (some 32) (some (30, false)) (XI.k (XK.cmp BinOp.geq IntKind.i64 (Operand.tmp 31) (Operand.const (Value.int IntKind.i64 1024)))), XS.mk (some 33) none (XI.k (XK.pick (Operand.tmp 30) (Operand.const (Value.bool true)) (Operand.tmp 32)))]) (.cond (Operand.tmp 33) (.ref 0) (.skip))) (.ref 46)
def T11n48 : XC := .seq (.ops [XS.mk (some 14) none (XI.k (XK.fld 0 (Operand.tmp 3))), XS.mk (some 15) none (XI.k (XK.load [CK.int IntKind.i64] false (Operand.tmp 14))), XS.mk (some 16) none (XI.call 29 [Operand.tmp 15]), XS.mk (some 13) none (XI.k (XK.mov (Operand.tmp 16))), XS.mk (some 17) none (XI.k (XK.ext (Operand.tmp 13) 0)), XS.mk (some 18) none (XI.k (XK.ext (Operand.tmp 13) 1)), XS.mk (some 7) none (XI.k (XK.alloc 61 [Value.string (ByteArray.mk (Array.mk [])), Value.bool false, Value.bool false, Value.bool false, Value.bool false])), XS.mk none none (XI.k (XK.store 5 (Operand.tmp 7) (Operand.tmp 17))), XS.mk (some 8) none (XI.k (XK.mov (Operand.tmp 18)))]) (.ref 47)
def T11 : Nat → XC
  | 0 => T11n0
  | 1 => T11n1
  | 2 => T11n2
  | 3 => T11n3
  | 4 => T11n4
  | 5 => T11n5
  | 6 => T11n6
  | 7 => T11n7
  | 8 => T11n8
  | 9 => T11n9
  | 10 => T11n10
  | 11 => T11n11
  | 12 => T11n12
  | 13 => T11n13
  | 14 => T11n14
  | 15 => T11n15
  | 16 => T11n16
  | 17 => T11n17
  | 18 => T11n18
  | 19 => T11n19
  | 20 => T11n20
  | 21 => T11n21
  | 22 => T11n22
  | 23 => T11n23
  | 24 => T11n24
  | 25 => T11n25
  | 26 => T11n26
  | 27 => T11n27
  | 28 => T11n28
  | 29 => T11n29
  | 30 => T11n30
  | 31 => T11n31
  | 32 => T11n32
  | 33 => T11n33
  | 34 => T11n34
  | 35 => T11n35
  | 36 => T11n36
  | 37 => T11n37
  | 38 => T11n38
  | 39 => T11n39
  | 40 => T11n40
  | 41 => T11n41
  | 42 => T11n42
  | 43 => T11n43
  | 44 => T11n44
  | 45 => T11n45
  | 46 => T11n46
  | 47 => T11n47
  | 48 => T11n48
  | _ => .skip
theorem t11n0 : T11 0 = T11n0 := rfl
theorem t11n1 : T11 1 = T11n1 := rfl
theorem t11n2 : T11 2 = T11n2 := rfl
theorem t11n3 : T11 3 = T11n3 := rfl
theorem t11n4 : T11 4 = T11n4 := rfl
theorem t11n5 : T11 5 = T11n5 := rfl
theorem t11n6 : T11 6 = T11n6 := rfl
theorem t11n7 : T11 7 = T11n7 := rfl
theorem t11n8 : T11 8 = T11n8 := rfl
theorem t11n9 : T11 9 = T11n9 := rfl
theorem t11n10 : T11 10 = T11n10 := rfl
theorem t11n11 : T11 11 = T11n11 := rfl
theorem t11n12 : T11 12 = T11n12 := rfl
theorem t11n13 : T11 13 = T11n13 := rfl
theorem t11n14 : T11 14 = T11n14 := rfl
theorem t11n15 : T11 15 = T11n15 := rfl
theorem t11n16 : T11 16 = T11n16 := rfl
theorem t11n17 : T11 17 = T11n17 := rfl
theorem t11n18 : T11 18 = T11n18 := rfl
theorem t11n19 : T11 19 = T11n19 := rfl
theorem t11n20 : T11 20 = T11n20 := rfl
theorem t11n21 : T11 21 = T11n21 := rfl
theorem t11n22 : T11 22 = T11n22 := rfl
theorem t11n23 : T11 23 = T11n23 := rfl
theorem t11n24 : T11 24 = T11n24 := rfl
theorem t11n25 : T11 25 = T11n25 := rfl
theorem t11n26 : T11 26 = T11n26 := rfl
theorem t11n27 : T11 27 = T11n27 := rfl
theorem t11n28 : T11 28 = T11n28 := rfl
theorem t11n29 : T11 29 = T11n29 := rfl
theorem t11n30 : T11 30 = T11n30 := rfl
theorem t11n31 : T11 31 = T11n31 := rfl
theorem t11n32 : T11 32 = T11n32 := rfl
theorem t11n33 : T11 33 = T11n33 := rfl
theorem t11n34 : T11 34 = T11n34 := rfl
theorem t11n35 : T11 35 = T11n35 := rfl
theorem t11n36 : T11 36 = T11n36 := rfl
theorem t11n37 : T11 37 = T11n37 := rfl
theorem t11n38 : T11 38 = T11n38 := rfl
theorem t11n39 : T11 39 = T11n39 := rfl
theorem t11n40 : T11 40 = T11n40 := rfl
theorem t11n41 : T11 41 = T11n41 := rfl
theorem t11n42 : T11 42 = T11n42 := rfl
theorem t11n43 : T11 43 = T11n43 := rfl
theorem t11n44 : T11 44 = T11n44 := rfl
theorem t11n45 : T11 45 = T11n45 := rfl
theorem t11n46 : T11 46 = T11n46 := rfl
theorem t11n47 : T11 47 = T11n47 := rfl
theorem t11n48 : T11 48 = T11n48 := rfl
def X11 : XC := .seq (.ops [XS.mk (some 3) none (XI.k (XK.box 23 5 (Operand.tmp 0))), XS.mk (some 4) none (XI.k (XK.box 25 8 (Operand.tmp 1))), XS.mk (some 6) none (XI.k (XK.alloc 27 [Value.int IntKind.i64 0, Value.int IntKind.i64 0, Value.int IntKind.i64 0, Value.int IntKind.u64 0, Value.int IntKind.u64 0]))]) (.ref 48)
abbrev K11 : List Nat := [0, 1, 2, 3, 4, 6, 7, 8, 9, 10, 11, 12, 33, 36, 42, 48, 59, 63, 69, 73, 79, 85, 91, 97, 103, 113, 122, 133, 173, 184, 186, 191]
theorem n11 : Tryd.f11.ntmps = 197 := by kernel_rfl
theorem r11 : rvOf Tryd.prog Tryd.f11.results.toList = some [RV.cell 6 5 true] := by kernel_rfl
theorem x11 : cmpF Tryd.prog Tryd.f11 = some (expand T11 50 X11) := by kernel_rfl
def T12n0 : XC := .seq (.ops [XS.mk (some 2) none (XI.k (XK.mov (Operand.const (Value.bool false))))]) (.ret)
def T12n1 : XC := .seq (.ops [XS.mk (some 24) none (XI.k (XK.mov (Operand.tmp 3))), XS.mk (some 25) none (XI.k (XK.mov (Operand.tmp 5))), XS.mk (some 26) none (XI.k (XK.ixT (Operand.const (Value.string (ByteArray.mk (Array.mk [UInt8.ofNat 65, UInt8.ofNat 66, UInt8.ofNat 67])))) (Operand.tmp 25))), XS.mk (some 27) none (XI.call 32 [Operand.tmp 24, Operand.tmp 26]), XS.mk (some 28) none (XI.k (XK.cmp BinOp.geq IntKind.i64 (Operand.tmp 27) (Operand.const (Value.int IntKind.i64 0)))), XS.mk (some 29) none (XI.k (XK.mov (Operand.tmp 28))), XS.mk (some 30) (some (29, true)) (XI.k (XK.mov (Operand.tmp 6))), XS.mk (some 31) (some (29, true)) (XI.k (XK.cmp BinOp.lss IntKind.i64 (Operand.tmp 30) (Operand.const (Value.int IntKind.i64 0)))), XS.mk (some 32) (some (29, true)) (XI.k (XK.mov (Operand.tmp 31))), XS.mk (some 33) (some (32, false)) (XI.k (XK.mov (Operand.tmp 6))), XS.mk (some 34) (some (32, false)) (XI.k (XK.cmp BinOp.geq IntKind.i64 (Operand.tmp 33) (Operand.const (Value.int IntKind.i64 8)))), XS.mk (some 35) (some (29, true)) (XI.k (XK.pick (Operand.tmp 32) (Operand.const (Value.bool true)) (Operand.tmp 34))), XS.mk (some 36) none (XI.k (XK.pick (Operand.tmp 29) (Operand.tmp 35) (Operand.const (Value.bool false))))]) (.cond (Operand.tmp 36) (.ref 0) (.skip))
def T12n2 : XC := .seq (.blk 1 (.seq (.ops [XS.mk (some 22) none (XI.k (XK.mov (Operand.tmp 20))), XS.mk (some 23) none (XI.k (XK.ixA 3 1 false (Operand.tmp 19) (Operand.tmp 20))), XS.mk (some 5) none (XI.k (XK.mov (Operand.tmp 22))), XS.mk (some 6) none (XI.k (XK.mov (Operand.tmp 23)))]) (.ref 1))) (.ops [XS.mk (some 37) none (XI.k (XK.arith BinOp.add IntKind.i64 (Operand.tmp 20) (Operand.const (Value.int IntKind.i64 1)))), XS.mk (some 20) none (XI.k (XK.mov (Operand.tmp 37)))])
def T12n3 : XC := .seq (.cond (Operand.tmp 21) (.skip) (.exit 0)) (.ref 2)
def T12n4 : XC := .seq (.ops [XS.mk (some 21) none (XI.k (XK.cmp BinOp.lss IntKind.i64 (Operand.tmp 20) (Operand.const (Value.int IntKind.i64 3))))]) (.ref 3)
def T12n5 : XC := .seq (.ops [XS.mk (some 38) none (XI.k (XK.mov (Operand.tmp 4))), XS.mk (some 2) none (XI.k (XK.mov (Operand.tmp 38)))]) (.ret)
def T12n6 : XC := .seq (.seq (.ops [XS.mk (some 13) none (XI.k (XK.fld 1 (Operand.tmp 1))), XS.mk (some 14) none (XI.k (XK.load [CK.int IntKind.i64] false (Operand.tmp 13))), XS.mk (some 15) none (XI.k (XK.fld 2 (Operand.tmp 1))), XS.mk (some 16) none (XI.k (XK.load [CK.int IntKind.i64] false (Operand.tmp 15))), XS.mk (some 17) none (XI.k (XK.fld 3 (Operand.tmp 1))), XS.mk (some 18) none (XI.k (XK.load [CK.int IntKind.i64] false (Operand.tmp 17))), XS.mk (some 19) none (XI.k (XK.build [Value.int IntKind.i64 0, Value.int IntKind.i64 0, Value.int IntKind.i64 0] [(0, 1, Operand.tmp 14), (1, 1, Operand.tmp 16), (2, 1, Operand.tmp 18)])), XS.mk (some 20) none (XI.k (XK.mov (Operand.const (Value.int IntKind.i64 0))))]) (.blk 0 (.loop (.ref 4)))) (.ref 5)
def T12n7 : XC := .seq (.ops [XS.mk (some 8) none (XI.k (XK.fld 0 (Operand.tmp 1))), XS.mk (some 9) none (XI.k (XK.load [CK.int IntKind.i64] false (Operand.tmp 8))), XS.mk (some 10) none (XI.call 31 [Operand.tmp 9]), XS.mk (some 7) none (XI.k (XK.mov (Operand.tmp 10))), XS.mk (some 11) none (XI.k (XK.ext (Operand.tmp 7) 0)), XS.mk (some 12) none (XI.k (XK.ext (Operand.tmp 7) 1)), XS.mk (some 3) none (XI.k (XK.mov (Operand.tmp 11))), XS.mk (some 4) none (XI.k (XK.mov (Operand.tmp 12)))]) (.ref 6)
def T12 : Nat → XC
  | 0 => T12n0
  | 1 => T12n1
  | 2 => T12n2
  | 3 => T12n3
  | 4 => T12n4
  | 5 => T12n5
  | 6 => T12n6
  | 7 => T12n7
  | _ => .skip
theorem t12n0 : T12 0 = T12n0 := rfl
theorem t12n1 : T12 1 = T12n1 := rfl
theorem t12n2 : T12 2 = T12n2 := rfl
theorem t12n3 : T12 3 = T12n3 := rfl
theorem t12n4 : T12 4 = T12n4 := rfl
theorem t12n5 : T12 5 = T12n5 := rfl
theorem t12n6 : T12 6 = T12n6 := rfl
theorem t12n7 : T12 7 = T12n7 := rfl
def X12 : XC := .seq (.ops [XS.mk (some 1) none (XI.k (XK.box 23 5 (Operand.tmp 0))), XS.mk (some 2) none (XI.k (XK.mov (Operand.const (Value.bool false))))]) (.ref 7)
abbrev K12 : List Nat := [0, 1, 2, 3, 4, 5, 6, 19, 20, 21, 36]
theorem n12 : Tryd.f12.ntmps = 39 := by kernel_rfl
theorem r12 : resT Tryd.f12.results.toList = some [2] := by kernel_rfl
theorem x12 : cmpF Tryd.prog Tryd.f12 = some (expand T12 9 X12) := by kernel_rfl
def T13n0 : XC := .seq (.ops [XS.mk (some 11) none (XI.k (XK.mov (Operand.tmp 4))), XS.mk (some 12) none (XI.k (XK.mov (Operand.tmp 11))), XS.mk (some 13) (some (12, true)) (XI.k (XK.fld 1 (Operand.tmp 3))), XS.mk (some 14) (some (12, true)) (XI.k (XK.load [CK.bool] false (Operand.tmp 13))), XS.mk (some 15) (some (12, true)) (XI.k (XK.not (Operand.tmp 14))), XS.mk (some 16) (some (12, true)) (XI.k (XK.mov (Operand.tmp 15))), XS.mk (some 17) (some (16, false)) (XI.k (XK.fld 1 (Operand.tmp 1))), XS.mk (some 18) (some (16, false)) (XI.k (XK.load [CK.int IntKind.i64] false (Operand.tmp 17))), XS.mk (some 19) (some (16, false)) (XI.call 33 [Operand.tmp 18]), XS.mk (some 20) (some (12, true)) (XI.k (XK.pick (Operand.tmp 16) (Operand.const (Value.bool true)) (Operand.tmp 19))), XS.mk (some 21) none (XI.k (XK.pick (Operand.tmp 12) (Operand.tmp 20) (Operand.const (Value.bool false)))), XS.mk (some 22) none (XI.k (XK.mov (Operand.tmp 21))), XS.mk (some 23) (some (22, true)) (XI.k (XK.fld 2 (Operand.tmp 3))), XS.mk (some 24) (some (22, true)) (XI.k (XK.load [CK.bool] false (Operand.tmp 23))), XS.mk (some 25) (some (22, true)) (XI.k (XK.not (Operand.tmp 24))), XS.mk (some 26) (some (22, true)) (XI.k (XK.mov (Operand.tmp 25))), XS.mk (some 27) (some (26, false)) (XI.k (XK.fld 2 (Operand.tmp 1))), XS.mk (some 28) (some (26, false)) (XI.k (XK.load [CK.int IntKind.i64] false (Operand.tmp 27))), XS.mk (some 29) (some (26, false)) (XI.call 33 [Operand.tmp 28]), XS.mk (some 30) (some (22, true)) (XI.k (XK.pick (Operand.tmp 26) (Operand.const (Value.bool true)) (Operand.tmp 29))), XS.mk (some 31) none (XI.k (XK.pick (Operand.tmp 22) (Operand.tmp 30) (Operand.const (Value.bool false)))), XS.mk (some 32) none (XI.k (XK.mov (Operand.tmp 31))), XS.mk (some 33) (some (32, true)) (XI.k (XK.fld 3 (Operand.tmp 3))), XS.mk (some 34) (some (32, true)) (XI.k (XK.load [CK.bool] false (Operand.tmp 33))), XS.mk (some 35) (some (32, true)) (XI.k (XK.not (Operand.tmp 34))), XS.mk (some 36) (some (32, true)) (XI.k (XK.mov (Operand.tmp 35))), XS.mk (some 37) (some (36, false)) (XI.k (XK.fld 3 (Operand.tmp 1))), XS.mk (some 38) (some (36, false)) (XI.k (XK.load [CK.int IntKind.i64] false (Operand.tmp 37))), XS.mk (some 39) (some (36, false)) (XI.call 33 [Operand.tmp 38]), XS.mk (some 40) (some (32, true)) (XI.k (XK.pick (Operand.tmp 36) (Operand.const (Value.bool true)) (Operand.tmp 39))), XS.mk (some 41) none (XI.k (XK.pick (Operand.tmp 32) (Operand.tmp 40) (Operand.const (Value.bool false)))), XS.mk (some 2) none (XI.k (XK.mov (Operand.tmp 41)))]) (.ret)
def T13n1 : XC := .seq (.ops [XS.mk (some 6) none (XI.k (XK.fld 0 (Operand.tmp 1))), XS.mk (some 7) none (XI.k (XK.load [CK.int IntKind.i64] false (Operand.tmp 6))), XS.mk (some 8) none (XI.call 29 [Operand.tmp 7]), XS.mk (some 5) none (XI.k (XK.mov (Operand.tmp 8))), XS.mk (some 9) none (XI.k (XK.ext (Operand.tmp 5) 0)), XS.mk (some 10) none (XI.k (XK.ext (Operand.tmp 5) 1)), XS.mk (some 3) none (XI.k (XK.alloc 61 [Value.string (ByteArray.mk (Array.mk [])), Value.bool false, Value.bool false, Value.bool false, Value.bool false])), XS.mk none none (XI.k (XK.store 5 (Operand.tmp 3) (Operand.tmp 9))), XS.mk (some 4) none (XI.k (XK.mov (Operand.tmp 10)))]) (.ref 0)
def T13 : Nat → XC
  | 0 => T13n0
  | 1 => T13n1
  | _ => .skip
theorem t13n0 : T13 0 = T13n0 := rfl
theorem t13n1 : T13 1 = T13n1 := rfl
def X13 : XC := .seq (.ops [XS.mk (some 1) none (XI.k (XK.box 23 5 (Operand.tmp 0))), XS.mk (some 2) none (XI.k (XK.mov (Operand.const (Value.bool false))))]) (.ref 1)
abbrev K13 : List Nat := [0, 1, 2, 3, 4]
theorem n13 : Tryd.f13.ntmps = 42 := by kernel_rfl
theorem r13 : resT Tryd.f13.results.toList = some [2] := by kernel_rfl
theorem x13 : cmpF Tryd.prog Tryd.f13 = some (expand T13 3 X13) := by kernel_rfl
def T25n0 : XC := .seq (.ops [XS.mk (some 5) none (XI.k (XK.load [CK.int IntKind.i64] false (Operand.tmp 1))), XS.mk (some 6) none (XI.k (XK.arith BinOp.add IntKind.i64 (Operand.tmp 5) (Operand.const (Value.int IntKind.i64 1)))), XS.mk (some 7) none (XI.k (XK.fld 1 (Operand.tmp 2))), XS.mk (some 8) none (XI.k (XK.load [CK.int IntKind.i64] false (Operand.tmp 7))), XS.mk (some 9) none (XI.k (XK.mov (Operand.tmp 0))), XS.mk (some 10) none (XI.k (XK.build [Value.int IntKind.i64 0, Value.int IntKind.i64 0, Value.int IntKind.i64 0, Value.int IntKind.u64 0, Value.int IntKind.u64 0] [(0, 1, Operand.const (Value.int IntKind.i64 1)), (1, 1, Operand.tmp 6), (2, 1, Operand.tmp 8), (3, 1, Operand.tmp 9)])), XS.mk none none (XI.k (XK.store 5 (Operand.tmp 4) (Operand.tmp 10)))]) (.ret)
def T25 : Nat → XC
  | 0 => T25n0
  | _ => .skip
theorem t25n0 : T25 0 = T25n0 := rfl
def X25 : XC := .seq (.ops [XS.mk (some 4) none (XI.k (XK.alloc 27 [Value.int IntKind.i64 0, Value.int IntKind.i64 0, Value.int IntKind.i64 0, Value.int IntKind.u64 0, Value.int IntKind.u64 0]))]) (.ref 0)
abbrev K25 : List Nat := [0, 1, 2, 4]
theorem n25 : Tryd.f25.ntmps = 11 := by kernel_rfl
theorem r25 : rvOf Tryd.prog Tryd.f25.results.toList = some [RV.cell 4 5 true] := by kernel_rfl
theorem x25 : cmpF Tryd.prog Tryd.f25 = some (expand T25 2 X25) := by kernel_rfl
def T26n0 : XC := .seq (.ops [XS.mk (some 7) none (XI.k (XK.load [CK.int IntKind.i64] false (Operand.tmp 1))), XS.mk (some 8) none (XI.k (XK.arith BinOp.add IntKind.i64 (Operand.tmp 7) (Operand.const (Value.int IntKind.i64 1)))), XS.mk (some 9) none (XI.k (XK.build [Value.int IntKind.i64 0, Value.int IntKind.i64 0, Value.int IntKind.i64 0, Value.int IntKind.u64 0, Value.int IntKind.u64 0] [(0, 1, Operand.const (Value.int IntKind.i64 2)), (1, 1, Operand.tmp 8)])), XS.mk none none (XI.k (XK.store 5 (Operand.tmp 4) (Operand.tmp 9)))]) (.ret)
def T26n1 : XC := .seq (.ops [XS.mk (some 18) none (XI.k (XK.build [Value.int IntKind.i64 0, Value.int IntKind.i64 0, Value.int IntKind.i64 0, Value.int IntKind.u64 0, Value.int IntKind.u64 0] [])), XS.mk none none (XI.k (XK.store 5 (Operand.tmp 4) (Operand.tmp 18)))]) (.ret)
def T26n2 : XC := .seq (.ops [XS.mk (some 19) none (XI.k (XK.fld 4 (Operand.tmp 2))), XS.mk (some 20) none (XI.k (XK.load [CK.int IntKind.i64] false (Operand.tmp 19))), XS.mk (some 21) none (XI.k (XK.build [Value.int IntKind.i64 0, Value.int IntKind.i64 0, Value.int IntKind.i64 0, Value.int IntKind.u64 0, Value.int IntKind.u64 0] [(0, 1, Operand.const (Value.int IntKind.i64 2)), (1, 1, Operand.tmp 20)])), XS.mk none none (XI.k (XK.store 5 (Operand.tmp 4) (Operand.tmp 21)))]) (.ret)
def T26n3 : XC := .seq (.seq (.ops [XS.mk (some 10) none (XI.k (XK.fld 4 (Operand.tmp 2))), XS.mk (some 11) none (XI.k (XK.load [CK.int IntKind.i64] false (Operand.tmp 10))), XS.mk (some 12) none (XI.k (XK.cmp BinOp.lss IntKind.i64 (Operand.tmp 11) (Operand.const (Value.int IntKind.i64 0)))), XS.mk (some 13) none (XI.k (XK.mov (Operand.tmp 12))), XS.mk (some 14) (some (13, false)) (XI.k (XK.fld 4 (Operand.tmp 2))), XS.mk (some 15) (some (13, false)) (XI.k (XK.load [CK.int IntKind.i64] false (Operand.tmp 14))), XS.mk (some 16) (some (13, false)) (XI.k (XK.cmp BinOp.gtr IntKind.i64 (Operand.tmp 15) (Operand.const (Value.int IntKind.i64 1024)))), XS.mk (some 17) none (XI.k (XK.pick (Operand.tmp 13) (Operand.const (Value.bool true)) (Operand.tmp 16)))]) (.cond (Operand.tmp 17) (.ref 1) (.skip))) (.ref 2)
def T26n4 : XC := .seq (.seq (.ops [XS.mk (some 5) none (XI.k (XK.mov (Operand.tmp 0))), XS.mk (some 6) none (XI.k (XK.not (Operand.tmp 5)))]) (.cond (Operand.tmp 6) (.ref 0) (.skip))) (.ref 3)
def T26 : Nat → XC
  | 0 => T26n0
  | 1 => T26n1
  | 2 => T26n2
  | 3 => T26n3
  | 4 => T26n4
  | _ => .skip
theorem t26n0 : T26 0 = T26n0 := rfl
theorem t26n1 : T26 1 = T26n1 := rfl
theorem t26n2 : T26 2 = T26n2 := rfl
theorem t26n3 : T26 3 = T26n3 := rfl
theorem t26n4 : T26 4 = T26n4 := rfl
def X26 : XC := .seq (.ops [XS.mk (some 4) none (XI.k (XK.alloc 27 [Value.int IntKind.i64 0, Value.int IntKind.i64 0, Value.int IntKind.i64 0, Value.int IntKind.u64 0, Value.int IntKind.u64 0]))]) (.ref 4)
abbrev K26 : List Nat := [0, 1, 2, 4, 6, 17]
theorem n26 : Tryd.f26.ntmps = 22 := by kernel_rfl
theorem r26 : rvOf Tryd.prog Tryd.f26.results.toList = some [RV.cell 4 5 true] := by kernel_rfl
theorem x26 : cmpF Tryd.prog Tryd.f26 = some (expand T26 6 X26) := by kernel_rfl
def T27n0 : XC := .seq (.ops [XS.mk (some 4) none (XI.k (XK.mov (Operand.tmp 0))), XS.mk (some 5) none (XI.k (XK.load [CK.int IntKind.i64] false (Operand.tmp 1))), XS.mk (some 6) none (XI.k (XK.arith BinOp.add IntKind.i64 (Operand.tmp 5) (Operand.const (Value.int IntKind.i64 1)))), XS.mk (some 7) none (XI.k (XK.build [Value.int IntKind.i64 0, Value.int IntKind.i64 0, Value.int IntKind.i64 0, Value.int IntKind.u64 0, Value.int IntKind.u64 0] [(0, 1, Operand.tmp 4), (1, 1, Operand.tmp 6)])), XS.mk none none (XI.k (XK.store 5 (Operand.tmp 3) (Operand.tmp 7)))]) (.ret)
def T27 : Nat → XC
  | 0 => T27n0
  | _ => .skip
theorem t27n0 : T27 0 = T27n0 := rfl
def X27 : XC := .seq (.ops [XS.mk (some 3) none (XI.k (XK.alloc 27 [Value.int IntKind.i64 0, Value.int IntKind.i64 0, Value.int IntKind.i64 0, Value.int IntKind.u64 0, Value.int IntKind.u64 0]))]) (.ref 0)
abbrev K27 : List Nat := [0, 1, 3]
theorem n27 : Tryd.f27.ntmps = 8 := by kernel_rfl
theorem r27 : rvOf Tryd.prog Tryd.f27.results.toList = some [RV.cell 3 5 true] := by kernel_rfl
theorem x27 : cmpF Tryd.prog Tryd.f27 = some (expand T27 2 X27) := by kernel_rfl
def T28n0 : XC := .seq (.ops [XS.mk (some 4) none (XI.k (XK.mov (Operand.tmp 0))), XS.mk (some 5) none (XI.k (XK.bits BinOp.and IntKind.i64 (Operand.tmp 4) (Operand.const (Value.int IntKind.i64 7)))), XS.mk (some 6) none (XI.k (XK.idxA 8 1 (Operand.tmp 1) (Operand.tmp 5))), XS.mk (some 7) none (XI.k (XK.load [CK.int IntKind.u64] false (Operand.tmp 6))), XS.mk (some 3) none (XI.k (XK.mov (Operand.tmp 7)))]) (.ret)
def T28 : Nat → XC
  | 0 => T28n0
  | _ => .skip
theorem t28n0 : T28 0 = T28n0 := rfl
def X28 : XC := .seq (.ops [XS.mk (some 3) none (XI.k (XK.mov (Operand.const (Value.int IntKind.u64 0))))]) (.ref 0)
abbrev K28 : List Nat := [0, 1, 3]
theorem n28 : Tryd.f28.ntmps = 8 := by kernel_rfl
theorem r28 : resT Tryd.f28.results.toList = some [3] := by kernel_rfl
theorem x28 : cmpF Tryd.prog Tryd.f28 = some (expand T28 2 X28) := by kernel_rfl
def T29n0 : XC := .seq (.ops [XS.mk (some 9) none (XI.k (XK.build [Value.string (ByteArray.mk (Array.mk [])), Value.bool false, Value.bool false, Value.bool false, Value.bool false] [(0, 1, Operand.const (Value.string (ByteArray.mk (Array.mk [UInt8.ofNat 104, UInt8.ofNat 97, UInt8.ofNat 108, UInt8.ofNat 116]))))])), XS.mk none none (XI.k (XK.store 5 (Operand.tmp 2) (Operand.tmp 9))), XS.mk (some 3) none (XI.k (XK.mov (Operand.const (Value.bool true))))]) (.ret)
def T29n1 : XC := .seq (.ops [XS.mk (some 12) none (XI.k (XK.build [Value.string (ByteArray.mk (Array.mk [])), Value.bool false, Value.bool false, Value.bool false, Value.bool false] [(0, 1, Operand.const (Value.string (ByteArray.mk (Array.mk [UInt8.ofNat 115, UInt8.ofNat 101, UInt8.ofNat 116])))), (1, 1, Operand.const (Value.bool true)), (4, 1, Operand.const (Value.bool true))])), XS.mk none none (XI.k (XK.store 5 (Operand.tmp 2) (Operand.tmp 12))), XS.mk (some 3) none (XI.k (XK.mov (Operand.const (Value.bool true))))]) (.ret)
def T29n2 : XC := .seq (.ops [XS.mk (some 15) none (XI.k (XK.build [Value.string (ByteArray.mk (Array.mk [])), Value.bool false, Value.bool false, Value.bool false, Value.bool false] [(0, 1, Operand.const (Value.string (ByteArray.mk (Array.mk [UInt8.ofNat 109, UInt8.ofNat 111, UInt8.ofNat 118])))), (1, 1, Operand.const (Value.bool true)), (2, 1, Operand.const (Value.bool true))])), XS.mk none none (XI.k (XK.store 5 (Operand.tmp 2) (Operand.tmp 15))), XS.mk (some 3) none (XI.k (XK.mov (Operand.const (Value.bool true))))]) (.ret)
def T29n3 : XC := .cond (Operand.tmp 16) (.skip) (.ops [XS.mk (some 23) none (XI.k (XK.cmp BinOp.eql IntKind.i64 (Operand.tmp 6) (Operand.const (Value.int IntKind.i64 10)))), XS.mk (some 16) none (XI.k (XK.mov (Operand.tmp 23)))])
def T29n4 : XC := .seq (.ops [XS.mk (some 22) none (XI.k (XK.cmp BinOp.eql IntKind.i64 (Operand.tmp 6) (Operand.const (Value.int IntKind.i64 9)))), XS.mk (some 16) none (XI.k (XK.mov (Operand.tmp 22)))]) (.ref 3)
def T29n5 : XC := .seq (.ops [XS.mk (some 21) none (XI.k (XK.cmp BinOp.eql IntKind.i64 (Operand.tmp 6) (Operand.const (Value.int IntKind.i64 8)))), XS.mk (some 16) none (XI.k (XK.mov (Operand.tmp 21)))]) (.cond (Operand.tmp 16) (.skip) (.ref 4))
def T29n6 : XC := .seq (.ops [XS.mk (some 20) none (XI.k (XK.cmp BinOp.eql IntKind.i64 (Operand.tmp 6) (Operand.const (Value.int IntKind.i64 7)))), XS.mk (some 16) none (XI.k (XK.mov (Operand.tmp 20)))]) (.cond (Operand.tmp 16) (.skip) (.ref 5))
def T29n7 : XC := .seq (.ops [XS.mk (some 19) none (XI.k (XK.cmp BinOp.eql IntKind.i64 (Operand.tmp 6) (Operand.const (Value.int IntKind.i64 6)))), XS.mk (some 16) none (XI.k (XK.mov (Operand.tmp 19)))]) (.cond (Operand.tmp 16) (.skip) (.ref 6))
def T29n8 : XC := .seq (.ops [XS.mk (some 18) none (XI.k (XK.cmp BinOp.eql IntKind.i64 (Operand.tmp 6) (Operand.const (Value.int IntKind.i64 5)))), XS.mk (some 16) none (XI.k (XK.mov (Operand.tmp 18)))]) (.cond (Operand.tmp 16) (.skip) (.ref 7))
def T29n9 : XC := .seq (.ops [XS.mk (some 25) none (XI.k (XK.mov (Operand.tmp 4))), XS.mk (some 26) none (XI.k (XK.mov (Operand.tmp 0))), XS.mk (some 27) none (XI.k (XK.arith BinOp.sub IntKind.i64 (Operand.tmp 26) (Operand.const (Value.int IntKind.i64 4)))), XS.mk (some 28) none (XI.k (XK.idx 1 (Operand.tmp 25) (Operand.tmp 27))), XS.mk (some 29) none (XI.k (XK.load [CK.str] false (Operand.tmp 28))), XS.mk (some 30) none (XI.k (XK.build [Value.string (ByteArray.mk (Array.mk [])), Value.bool false, Value.bool false, Value.bool false, Value.bool false] [(0, 1, Operand.tmp 29), (1, 1, Operand.const (Value.bool true)), (2, 1, Operand.const (Value.bool true)), (3, 1, Operand.const (Value.bool true))])), XS.mk none none (XI.k (XK.store 5 (Operand.tmp 2) (Operand.tmp 30))), XS.mk (some 3) none (XI.k (XK.mov (Operand.const (Value.bool true))))]) (.ret)
def T29n10 : XC := .seq (.ops [XS.mk (some 24) none (XI.k (XK.buildS 9 7 1 [Value.string (ByteArray.mk (Array.mk []))] [(0, Operand.const (Value.string (ByteArray.mk (Array.mk [UInt8.ofNat 97, UInt8.ofNat 100, UInt8.ofNat 100])))), (1, Operand.const (Value.string (ByteArray.mk (Array.mk [UInt8.ofNat 115, UInt8.ofNat 117, UInt8.ofNat 98])))), (2, Operand.const (Value.string (ByteArray.mk (Array.mk [UInt8.ofNat 109, UInt8.ofNat 117, UInt8.ofNat 108])))), (3, Operand.const (Value.string (ByteArray.mk (Array.mk [UInt8.ofNat 97, UInt8.ofNat 110, UInt8.ofNat 100])))), (4, Operand.const (Value.string (ByteArray.mk (Array.mk [UInt8.ofNat 120, UInt8.ofNat 111, UInt8.ofNat 114])))), (5, Operand.const (Value.string (ByteArray.mk (Array.mk [UInt8.ofNat 115, UInt8.ofNat 104, UInt8.ofNat 108])))), (6, Operand.const (Value.string (ByteArray.mk (Array.mk [UInt8.ofNat 115, UInt8.ofNat 104, UInt8.ofNat 114]))))])), XS.mk (some 4) none (XI.k (XK.mov (Operand.tmp 24)))]) (.ref 9)
def T29n11 : XC := .cond (Operand.tmp 31) (.skip) (.ops [XS.mk (some 36) none (XI.k (XK.cmp BinOp.eql IntKind.i64 (Operand.tmp 6) (Operand.const (Value.int IntKind.i64 16)))), XS.mk (some 31) none (XI.k (XK.mov (Operand.tmp 36)))])
def T29n12 : XC := .seq (.ops [XS.mk (some 35) none (XI.k (XK.cmp BinOp.eql IntKind.i64 (Operand.tmp 6) (Operand.const (Value.int IntKind.i64 15)))), XS.mk (some 31) none (XI.k (XK.mov (Operand.tmp 35)))]) (.ref 11)
def T29n13 : XC := .seq (.ops [XS.mk (some 34) none (XI.k (XK.cmp BinOp.eql IntKind.i64 (Operand.tmp 6) (Operand.const (Value.int IntKind.i64 14)))), XS.mk (some 31) none (XI.k (XK.mov (Operand.tmp 34)))]) (.cond (Operand.tmp 31) (.skip) (.ref 12))
def T29n14 : XC := .seq (.ops [XS.mk (some 33) none (XI.k (XK.cmp BinOp.eql IntKind.i64 (Operand.tmp 6) (Operand.const (Value.int IntKind.i64 12)))), XS.mk (some 31) none (XI.k (XK.mov (Operand.tmp 33)))]) (.cond (Operand.tmp 31) (.skip) (.ref 13))
def T29n15 : XC := .seq (.ops [XS.mk (some 38) none (XI.k (XK.mov (Operand.tmp 5))), XS.mk (some 39) none (XI.k (XK.mov (Operand.tmp 0))), XS.mk (some 40) none (XI.k (XK.arith BinOp.sub IntKind.i64 (Operand.tmp 39) (Operand.const (Value.int IntKind.i64 11)))), XS.mk (some 41) none (XI.k (XK.idx 1 (Operand.tmp 38) (Operand.tmp 40))), XS.mk (some 42) none (XI.k (XK.load [CK.str] false (Operand.tmp 41))), XS.mk (some 43) none (XI.k (XK.build [Value.string (ByteArray.mk (Array.mk [])), Value.bool false, Value.bool false, Value.bool false, Value.bool false] [(0, 1, Operand.tmp 42), (1, 1, Operand.const (Value.bool true)), (2, 1, Operand.const (Value.bool true)), (4, 1, Operand.const (Value.bool true))])), XS.mk none none (XI.k (XK.store 5 (Operand.tmp 2) (Operand.tmp 43))), XS.mk (some 3) none (XI.k (XK.mov (Operand.const (Value.bool true))))]) (.ret)
def T29n16 : XC := .seq (.ops [XS.mk (some 37) none (XI.k (XK.buildS 9 6 1 [Value.string (ByteArray.mk (Array.mk []))] [(0, Operand.const (Value.string (ByteArray.mk (Array.mk [UInt8.ofNat 108, UInt8.ofNat 111, UInt8.ofNat 97, UInt8.ofNat 100])))), (1, Operand.const (Value.string (ByteArray.mk (Array.mk [UInt8.ofNat 115, UInt8.ofNat 116, UInt8.ofNat 111, UInt8.ofNat 114, UInt8.ofNat 101])))), (2, Operand.const (Value.string (ByteArray.mk (Array.mk [])))), (3, Operand.const (Value.string (ByteArray.mk (Array.mk [UInt8.ofNat 101, UInt8.ofNat 113])))), (4, Operand.const (Value.string (ByteArray.mk (Array.mk [UInt8.ofNat 110, UInt8.ofNat 101])))), (5, Operand.const (Value.string (ByteArray.mk (Array.mk [UInt8.ofNat 108, UInt8.ofNat 116]))))])), XS.mk (some 5) none (XI.k (XK.mov (Operand.tmp 37)))]) (.ref 15)
def T29n17 : XC := .seq (.ops [XS.mk (some 46) none (XI.k (XK.build [Value.string (ByteArray.mk (Array.mk [])), Value.bool false, Value.bool false, Value.bool false, Value.bool false] [(0, 1, Operand.const (Value.string (ByteArray.mk (Array.mk [UInt8.ofNat 106, UInt8.ofNat 117, UInt8.ofNat 109, UInt8.ofNat 112])))), (4, 1, Operand.const (Value.bool true))])), XS.mk none none (XI.k (XK.store 5 (Operand.tmp 2) (Operand.tmp 46))), XS.mk (some 3) none (XI.k (XK.mov (Operand.const (Value.bool true))))]) (.ret)
def T29n18 : XC := .seq (.ops [XS.mk (some 49) none (XI.k (XK.build [Value.string (ByteArray.mk (Array.mk [])), Value.bool false, Value.bool false, Value.bool false, Value.bool false] [(0, 1, Operand.const (Value.string (ByteArray.mk (Array.mk [UInt8.ofNat 98, UInt8.ofNat 101, UInt8.ofNat 103, UInt8.ofNat 105, UInt8.ofNat 110]))))])), XS.mk none none (XI.k (XK.store 5 (Operand.tmp 2) (Operand.tmp 49))), XS.mk (some 3) none (XI.k (XK.mov (Operand.const (Value.bool true))))]) (.ret)
def T29n19 : XC := .seq (.ops [XS.mk (some 52) none (XI.k (XK.build [Value.string (ByteArray.mk (Array.mk [])), Value.bool false, Value.bool false, Value.bool false, Value.bool false] [(0, 1, Operand.const (Value.string (ByteArray.mk (Array.mk [UInt8.ofNat 101, UInt8.ofNat 110, UInt8.ofNat 100]))))])), XS.mk none none (XI.k (XK.store 5 (Operand.tmp 2) (Operand.tmp 52))), XS.mk (some 3) none (XI.k (XK.mov (Operand.const (Value.bool true))))]) (.ret)
def T29n20 : XC := .seq (.ops [XS.mk (some 51) none (XI.k (XK.cmp BinOp.eql IntKind.i64 (Operand.tmp 6) (Operand.const (Value.int IntKind.i64 18)))), XS.mk (some 50) none (XI.k (XK.mov (Operand.tmp 51)))]) (.cond (Operand.tmp 50) (.ref 19) (.skip))
def T29n21 : XC := .seq (.ops [XS.mk (some 48) none (XI.k (XK.cmp BinOp.eql IntKind.i64 (Operand.tmp 6) (Operand.const (Value.int IntKind.i64 17)))), XS.mk (some 47) none (XI.k (XK.mov (Operand.tmp 48)))]) (.cond (Operand.tmp 47) (.ref 18) (.ref 20))
def T29n22 : XC := .seq (.ops [XS.mk (some 45) none (XI.k (XK.cmp BinOp.eql IntKind.i64 (Operand.tmp 6) (Operand.const (Value.int IntKind.i64 13)))), XS.mk (some 44) none (XI.k (XK.mov (Operand.tmp 45)))]) (.cond (Operand.tmp 44) (.ref 17) (.ref 21))
def T29n23 : XC := .seq (.seq (.ops [XS.mk (some 32) none (XI.k (XK.cmp BinOp.eql IntKind.i64 (Operand.tmp 6) (Operand.const (Value.int IntKind.i64 11)))), XS.mk (some 31) none (XI.k (XK.mov (Operand.tmp 32)))]) (.cond (Operand.tmp 31) (.skip) (.ref 14))) (.cond (Operand.tmp 31) (.ref 16) (.ref 22))
def T29n24 : XC := .seq (.seq (.ops [XS.mk (some 17) none (XI.k (XK.cmp BinOp.eql IntKind.i64 (Operand.tmp 6) (Operand.const (Value.int IntKind.i64 4)))), XS.mk (some 16) none (XI.k (XK.mov (Operand.tmp 17)))]) (.cond (Operand.tmp 16) (.skip) (.ref 8))) (.cond (Operand.tmp 16) (.ref 10) (.ref 23))
def T29n25 : XC := .seq (.ops [XS.mk (some 14) none (XI.k (XK.cmp BinOp.eql IntKind.i64 (Operand.tmp 6) (Operand.const (Value.int IntKind.i64 3)))), XS.mk (some 13) none (XI.k (XK.mov (Operand.tmp 14)))]) (.cond (Operand.tmp 13) (.ref 2) (.ref 24))
def T29n26 : XC := .seq (.ops [XS.mk (some 11) none (XI.k (XK.cmp BinOp.eql IntKind.i64 (Operand.tmp 6) (Operand.const (Value.int IntKind.i64 2)))), XS.mk (some 10) none (XI.k (XK.mov (Operand.tmp 11)))]) (.cond (Operand.tmp 10) (.ref 1) (.ref 25))
def T29n27 : XC := .blk 0 (.seq (.ops [XS.mk (some 8) none (XI.k (XK.cmp BinOp.eql IntKind.i64 (Operand.tmp 6) (Operand.const (Value.int IntKind.i64 1)))), XS.mk (some 7) none (XI.k (XK.mov (Operand.tmp 8)))]) (.cond (Operand.tmp 7) (.ref 0) (.ref 26)))
def T29n28 : XC := .seq (.ops [XS.mk (some 53) none (XI.k (XK.build [Value.string (ByteArray.mk (Array.mk [])), Value.bool false, Value.bool false, Value.bool false, Value.bool false] [])), XS.mk none none (XI.k (XK.store 5 (Operand.tmp 2) (Operand.tmp 53))), XS.mk (some 3) none (XI.k (XK.mov (Operand.const (Value.bool false))))]) (.ret)
def T29n29 : XC := .seq (.seq (.ops [XS.mk (some 6) none (XI.k (XK.mov (Operand.tmp 0)))]) (.ref 27)) (.ref 28)
def T29 : Nat → XC
  | 0 => T29n0
  | 1 => T29n1
  | 2 => T29n2
  | 3 => T29n3
  | 4 => T29n4
  | 5 => T29n5
  | 6 => T29n6
  | 7 => T29n7
  | 8 => T29n8
  | 9 => T29n9
  | 10 => T29n10
  | 11 => T29n11
  | 12 => T29n12
  | 13 => T29n13
  | 14 => T29n14
  | 15 => T29n15
  | 16 => T29n16
  | 17 => T29n17
  | 18 => T29n18
  | 19 => T29n19
  | 20 => T29n20
  | 21 => T29n21
  | 22 => T29n22
  | 23 => T29n23
  | 24 => T29n24
  | 25 => T29n25
  | 26 => T29n26
  | 27 => T29n27
  | 28 => T29n28
  | 29 => T29n29
  | _ => .skip
theorem t29n0 : T29 0 = T29n0 := rfl
theorem t29n1 : T29 1 = T29n1 := rfl
theorem t29n2 : T29 2 = T29n2 := rfl
theorem t29n3 : T29 3 = T29n3 := rfl
theorem t29n4 : T29 4 = T29n4 := rfl
theorem t29n5 : T29 5 = T29n5 := rfl
theorem t29n6 : T29 6 = T29n6 := rfl
theorem t29n7 : T29 7 = T29n7 := rfl
theorem t29n8 : T29 8 = T29n8 := rfl
theorem t29n9 : T29 9 = T29n9 := rfl
theorem t29n10 : T29 10 = T29n10 := rfl
theorem t29n11 : T29 11 = T29n11 := rfl
theorem t29n12 : T29 12 = T29n12 := rfl
theorem t29n13 : T29 13 = T29n13 := rfl
theorem t29n14 : T29 14 = T29n14 := rfl
theorem t29n15 : T29 15 = T29n15 := rfl
theorem t29n16 : T29 16 = T29n16 := rfl
theorem t29n17 : T29 17 = T29n17 := rfl
theorem t29n18 : T29 18 = T29n18 := rfl
theorem t29n19 : T29 19 = T29n19 := rfl
theorem t29n20 : T29 20 = T29n20 := rfl
theorem t29n21 : T29 21 = T29n21 := rfl
theorem t29n22 : T29 22 = T29n22 := rfl
theorem t29n23 : T29 23 = T29n23 := rfl
theorem t29n24 : T29 24 = T29n24 := rfl
theorem t29n25 : T29 25 = T29n25 := rfl
theorem t29n26 : T29 26 = T29n26 := rfl
theorem t29n27 : T29 27 = T29n27 := rfl
theorem t29n28 : T29 28 = T29n28 := rfl
theorem t29n29 : T29 29 = T29n29 := rfl
def X29 : XC := .seq (.ops [XS.mk (some 2) none (XI.k (XK.alloc 61 [Value.string (ByteArray.mk (Array.mk [])), Value.bool false, Value.bool false, Value.bool false, Value.bool false])), XS.mk (some 3) none (XI.k (XK.mov (Operand.const (Value.bool false))))]) (.ref 29)
abbrev K29 : List Nat := [0, 2, 3, 4, 5, 6, 7, 10, 13, 16, 31, 44, 47, 50]
theorem n29 : Tryd.f29.ntmps = 54 := by kernel_rfl
theorem r29 : rvOf Tryd.prog Tryd.f29.results.toList = some [RV.cell 2 5 true, RV.tmp 3] := by kernel_rfl
theorem x29 : cmpF Tryd.prog Tryd.f29 = some (expand T29 31 X29) := by kernel_rfl
def T30n0 : XC := .ops [XS.mk (some 15) none (XI.k (XK.mov (Operand.tmp 0))), XS.mk (some 16) none (XI.k (XK.mov (Operand.tmp 0))), XS.mk (some 17) none (XI.k (XK.arith BinOp.add IntKind.u64 (Operand.tmp 15) (Operand.tmp 16))), XS.mk (some 0) none (XI.k (XK.mov (Operand.tmp 17)))]
def T30n1 : XC := .ops [XS.mk (some 18) none (XI.k (XK.mov (Operand.tmp 0))), XS.mk (some 19) none (XI.k (XK.div BinOp.quo IntKind.u64 (Operand.tmp 18) (Operand.const (Value.int IntKind.u64 2)))), XS.mk (some 0) none (XI.k (XK.mov (Operand.tmp 19)))]
def T30n2 : XC := .ops [XS.mk (some 12) none (XI.k (XK.mov (Operand.tmp 7))), XS.mk (some 13) none (XI.k (XK.arith BinOp.add IntKind.u64 (Operand.tmp 12) (Operand.const (Value.int IntKind.u64 1)))), XS.mk (some 7) none (XI.k (XK.mov (Operand.tmp 13)))]
def T30n3 : XC := .seq (.blk 1 (.seq (.ops [XS.mk (some 14) none (XI.k (XK.mov (Operand.tmp 2)))]) (.cond (Operand.tmp 14) (.ref 0) (.ref 1)))) (.ref 2)
def T30n4 : XC := .seq (.seq (.ops [XS.mk (some 8) none (XI.k (XK.mov (Operand.tmp 7))), XS.mk (some 9) none (XI.k (XK.mov (Operand.tmp 1))), XS.mk (some 10) none (XI.k (XK.div BinOp.rem IntKind.u64 (Operand.tmp 9) (Operand.const (Value.int IntKind.u64 64)))), XS.mk (some 11) none (XI.k (XK.cmp BinOp.lss IntKind.u64 (Operand.tmp 8) (Operand.tmp 10)))]) (.cond (Operand.tmp 11) (.skip) (.exit 0))) (.ref 3)
def T30n5 : XC := .seq (.ops [XS.mk (some 20) none (XI.k (XK.mov (Operand.tmp 0))), XS.mk (some 6) none (XI.k (XK.mov (Operand.tmp 20)))]) (.ret)
def T30n6 : XC := .seq (.seq (.ops [XS.mk (some 7) none (XI.k (XK.mov (Operand.const (Value.int IntKind.u64 0))))]) (.blk 0 (.loop (.ref 4)))) (.ref 5)
def T30 : Nat → XC
  | 0 => T30n0
  | 1 => T30n1
  | 2 => T30n2
  | 3 => T30n3
  | 4 => T30n4
  | 5 => T30n5
  | 6 => T30n6
  | _ => .skip
theorem t30n0 : T30 0 = T30n0 := rfl
theorem t30n1 : T30 1 = T30n1 := rfl
theorem t30n2 : T30 2 = T30n2 := rfl
theorem t30n3 : T30 3 = T30n3 := rfl
theorem t30n4 : T30 4 = T30n4 := rfl
theorem t30n5 : T30 5 = T30n5 := rfl
theorem t30n6 : T30 6 = T30n6 := rfl
def X30 : XC := .seq (.ops [XS.mk (some 6) none (XI.k (XK.mov (Operand.const (Value.int IntKind.u64 0))))]) (.ref 6)
abbrev K30 : List Nat := [0, 1, 2, 6, 7, 11, 14]
theorem n30 : Tryd.f30.ntmps = 21 := by kernel_rfl
theorem r30 : resT Tryd.f30.results.toList = some [6] := by kernel_rfl
theorem x30 : cmpF Tryd.prog Tryd.f30 = some (expand T30 8 X30) := by kernel_rfl
def T31n0 : XC := .seq (.ops [XS.mk (some 2) none (XI.k (XK.mov (Operand.const (Value.string (ByteArray.mk (Array.mk [])))))), XS.mk (some 3) none (XI.k (XK.mov (Operand.const (Value.bool false))))]) (.ret)
def T31n1 : XC := .seq (.ops [XS.mk (some 10) none (XI.k (XK.mov (Operand.tmp 0))), XS.mk (some 11) none (XI.k (XK.idxA 19 2 (Operand.global 0) (Operand.tmp 10))), XS.mk (some 12) none (XI.k (XK.fld 1 (Operand.tmp 11))), XS.mk (some 13) none (XI.k (XK.load [CK.str] false (Operand.tmp 12))), XS.mk (some 2) none (XI.k (XK.mov (Operand.tmp 13))), XS.mk (some 3) none (XI.k (XK.mov (Operand.const (Value.bool true))))]) (.ret)
def T31n2 : XC := .seq (.seq (.ops [XS.mk (some 4) none (XI.k (XK.mov (Operand.tmp 0))), XS.mk (some 5) none (XI.k (XK.cmp BinOp.lss IntKind.i64 (Operand.tmp 4) (Operand.const (Value.int IntKind.i64 1)))), XS.mk (some 6) none (XI.k (XK.mov (Operand.tmp 5))), XS.mk (some 7) (some (6, false)) (XI.k (XK.mov (Operand.tmp 0))), XS.mk (some 8) (some (6, false)) (XI.k (XK.cmp BinOp.geq IntKind.i64 (Operand.tmp 7) (Operand.const (Value.int IntKind.i64 19)))), XS.mk (some 9) none (XI.k (XK.pick (Operand.tmp 6) (Operand.const (Value.bool true)) (Operand.tmp 8)))]) (.cond (Operand.tmp 9) (.ref 0) (.skip))) (.ref 1)
def T31 : Nat → XC
  | 0 => T31n0
  | 1 => T31n1
  | 2 => T31n2
  | _ => .skip
theorem t31n0 : T31 0 = T31n0 := rfl
theorem t31n1 : T31 1 = T31n1 := rfl
theorem t31n2 : T31 2 = T31n2 := rfl
def X31 : XC := .seq (.ops [XS.mk (some 2) none (XI.k (XK.mov (Operand.const (Value.string (ByteArray.mk (Array.mk [])))))), XS.mk (some 3) none (XI.k (XK.mov (Operand.const (Value.bool false))))]) (.ref 2)
abbrev K31 : List Nat := [0, 2, 3, 9]
theorem n31 : Tryd.f31.ntmps = 14 := by kernel_rfl
theorem r31 : resT Tryd.f31.results.toList = some [2, 3] := by kernel_rfl
theorem x31 : cmpF Tryd.prog Tryd.f31 = some (expand T31 4 X31) := by kernel_rfl
def T32n0 : XC := .seq (.ops [XS.mk (some 5) none (XI.k (XK.mov (Operand.tmp 0))), XS.mk (some 6) none (XI.k (XK.mov (Operand.tmp 1))), XS.mk (some 7) none (XI.call 44 [Operand.tmp 5, Operand.tmp 6]), XS.mk (some 4) none (XI.k (XK.mov (Operand.tmp 7)))]) (.ret)
def T32 : Nat → XC
  | 0 => T32n0
  | _ => .skip
theorem t32n0 : T32 0 = T32n0 := rfl
def X32 : XC := .seq (.ops [XS.mk (some 4) none (XI.k (XK.mov (Operand.const (Value.int IntKind.i64 0))))]) (.ref 0)
abbrev K32 : List Nat := [0, 1, 4]
theorem n32 : Tryd.f32.ntmps = 8 := by kernel_rfl
theorem r32 : resT Tryd.f32.results.toList = some [4] := by kernel_rfl
theorem x32 : cmpF Tryd.prog Tryd.f32 = some (expand T32 2 X32) := by kernel_rfl
def T33n0 : XC := .seq (.ops [XS.mk (some 3) none (XI.k (XK.mov (Operand.tmp 0))), XS.mk (some 4) none (XI.k (XK.cmp BinOp.geq IntKind.i64 (Operand.tmp 3) (Operand.const (Value.int IntKind.i64 0)))), XS.mk (some 5) none (XI.k (XK.mov (Operand.tmp 4))), XS.mk (some 6) (some (5, true)) (XI.k (XK.mov (Operand.tmp 0))), XS.mk (some 7) (some (5, true)) (XI.k (XK.cmp BinOp.lss IntKind.i64 (Operand.tmp 6) (Operand.const (Value.int IntKind.i64 8)))), XS.mk (some 8) none (XI.k (XK.pick (Operand.tmp 5) (Operand.tmp 7) (Operand.const (Value.bool false)))), XS.mk (some 2) none (XI.k (XK.mov (Operand.tmp 8)))]) (.ret)
def T33 : Nat → XC
  | 0 => T33n0
  | _ => .skip
theorem t33n0 : T33 0 = T33n0 := rfl
def X33 : XC := .seq (.ops [XS.mk (some 2) none (XI.k (XK.mov (Operand.const (Value.bool false))))]) (.ref 0)
abbrev K33 : List Nat := [0, 2]
theorem n33 : Tryd.f33.ntmps = 9 := by kernel_rfl
theorem r33 : resT Tryd.f33.results.toList = some [2] := by kernel_rfl
theorem x33 : cmpF Tryd.prog Tryd.f33 = some (expand T33 2 X33) := by kernel_rfl
def T44n0 : XC := .seq (.ops [XS.mk (some 5) none (XI.k (XK.mov (Operand.tmp 0))), XS.mk (some 6) none (XI.k (XK.mov (Operand.tmp 1))), XS.mk (some 7) none (XI.k (XK.lib 0 [Operand.tmp 5, Operand.tmp 6])), XS.mk (some 4) none (XI.k (XK.mov (Operand.tmp 7)))]) (.ret)
def T44 : Nat → XC
  | 0 => T44n0
  | _ => .skip
theorem t44n0 : T44 0 = T44n0 := rfl
def X44 : XC := .seq (.ops [XS.mk (some 4) none (XI.k (XK.mov (Operand.const (Value.int IntKind.i64 0))))]) (.ref 0)
abbrev K44 : List Nat := [0, 1, 4]
theorem n44 : Tryd.f44.ntmps = 8 := by kernel_rfl
theorem r44 : resT Tryd.f44.results.toList = some [4] := by kernel_rfl
theorem x44 : cmpF Tryd.prog Tryd.f44 = some (expand T44 2 X44) := by kernel_rfl
end Go.Proofs.YtpoopljpodkdcaaDoor
