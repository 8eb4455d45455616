/- Printed by program: the small code of functions, and that it is theirs. -/
import Derived.Test.YtpoopljpodkdcaaDoorSxStill
import Derived.Test.YtpoopljpodkdcaaDoorProg
import Derived.KernelRfl
set_option linter.unusedSimpArgs false
set_option linter.unusedVariables false
set_option linter.unnecessarySimpa false
namespace Go.Proofs.YtpoopljpodkdcaaDoor
open Go Go.Sx
set_option maxRecDepth 100000
def T13n0 : XC := .seq (.ops [XS.mk (some 11) none (XI.k (XK.mov (Operand.tmp 4))), XS.mk (some 12) none (XI.k (XK.mov (Operand.tmp 11))), XS.mk (some 13) (some (12, true)) (XI.k (XK.fld 1 (Operand.tmp 3))), XS.mk (some 14) (some (12, true)) (XI.k (XK.load [CK.bool] false (Operand.tmp 13))), XS.mk (some 15) (some (12, true)) (XI.k (XK.not (Operand.tmp 14))), XS.mk (some 16) (some (12, true)) (XI.k (XK.mov (Operand.tmp 15))), XS.mk (some 17) (some (16, false)) (XI.k (XK.fld 1 (Operand.tmp 1))), XS.mk (some 18) (some (16, false)) (XI.k (XK.load [CK.int IntKind.i64] false (Operand.tmp 17))), XS.mk (some 19) (some (16, false)) (XI.call 33 [Operand.tmp 18]), XS.mk (some 20) (some (12, true)) (XI.k (XK.pick (Operand.tmp 16) (Operand.const (Value.bool true)) (Operand.tmp 19))), XS.mk (some 21) none (XI.k (XK.pick (Operand.tmp 12) (Operand.tmp 20) (Operand.const (Value.bool false)))), XS.mk (some 22) none (XI.k (XK.mov (Operand.tmp 21))), XS.mk (some 23) (some (22, true)) (XI.k (XK.fld 2 (Operand.tmp 3))), XS.mk (some 24) (some (22, true)) (XI.k (XK.load [CK.bool] false (Operand.tmp 23))), XS.mk (some 25) (some (22, true)) (XI.k (XK.not (Operand.tmp 24))), XS.mk (some 26) (some (22, true)) (XI.k (XK.mov (Operand.tmp 25))), XS.mk (some 27) (some (26, false)) (XI.k (XK.fld 2 (Operand.tmp 1))), XS.mk (some 28) (some (26, false)) (XI.k (XK.load [CK.int IntKind.i64] false (Operand.tmp 27))), XS.mk (some 29) (some (26, false)) (XI.call 33 [Operand.tmp 28]), XS.mk (some 30) (some (22, true)) (XI.k (XK.pick (Operand.tmp 26) (Operand.const (Value.bool true)) (Operand.tmp 29))), XS.mk (some 31) none (XI.k (XK.pick (Operand.tmp 22) (Operand.tmp 30) (Operand.const (Value.bool false)))), XS.mk (some 32) none (XI.k (XK.mov (Operand.tmp 31))), XS.mk (some 33) (some (32, true)) (XI.k (XK.fld 3 (Operand.tmp 3))), XS.mk (some 34) (some (32, true)) (XI.k (XK.load [CK.bool] false (Operand.tmp 33))), XS.mk (some 35) (some (32, true)) (XI.k (XK.not (Operand.tmp 34))), XS.mk (some 36) (some (32, true)) (XI.k (XK.mov (Operand.tmp 35))), XS.mk (some 37) (some (36, false)) (XI.k (XK.fld 3 (Operand.tmp 1))), XS.mk (some 38) (some (36, false)) (XI.k (XK.load [CK.int IntKind.i64] false (Operand.tmp 37))), XS.mk (some 39) (some (36, false)) (XI.call 33 [Operand.tmp 38]), XS.mk (some 40) (some (32, true)) (XI.k (XK.pick (Operand.tmp 36) (Operand.const (Value.bool true)) (Operand.tmp 39))), XS.mk (some 41) none (XI.k (XK.pick (Operand.tmp 32) (Operand.tmp 40) (Operand.const (Value.bool false)))), XS.mk (some 2) none (XI.k (XK.mov (Operand.tmp 41)))]) (.ret)
def T13n1 : XC := .seq (.ops [XS.mk (some 6) none (XI.k (XK.fld 0 (Operand.tmp 1))), XS.mk (some 7) none (XI.k (XK.load [CK.int IntKind.i64] false (Operand.tmp 6))), XS.mk (some 8) none (XI.call 29 [Operand.tmp 7]), XS.mk (some 5) none (XI.k (XK.mov (Operand.tmp 8))), XS.mk (some 9) none (XI.k (XK.ext (Operand.tmp 5) 0)), XS.mk (some 10) none (XI.k (XK.ext (Operand.tmp 5) 1)), XS.mk (some 3) none (XI.k (XK.alloc 61 [Value.string (ByteArray.mk (Array.mk [])), Value.bool false, Value.bool false, Value.bool false, Value.bool false])), XS.mk none none (XI.k (XK.store 5 (Operand.tmp 3) (Operand.tmp 9))), XS.mk (some 4) none (XI.k (XK.mov (Operand.tmp 10)))]) (.ref 0)
def T13 : Nat → XC
  | 0 => T13n0
  | 1 => T13n1
  | _ => .skip
theorem t13n0 : T13 0 = T13n0 := rfl
theorem t13n1 : T13 1 = T13n1 := rfl
def X13 : XC := .seq (.ops [XS.mk (some 1) none (XI.k (XK.box 23 5 (Operand.tmp 0))), XS.mk (some 2) none (XI.k (XK.mov (Operand.const (Value.bool false))))]) (.ref 1)
abbrev K13 : List Nat := [0, 1, 2, 3, 4]
theorem n13 : Tryd.f13.ntmps = 42 := by kernel_rfl
theorem r13 : resT Tryd.f13.results.toList = some [2] := by kernel_rfl
theorem x13 : cmpF Tryd.prog Tryd.f13 = some (expand T13 3 X13) := by kernel_rfl
def T15n0 : XC := .seq (.ops [XS.mk (some 18) none (XI.k (XK.build [Value.int IntKind.i64 0, Value.int IntKind.i64 0, Value.int IntKind.i64 0, Value.int IntKind.i64 0, Value.int IntKind.i64 0] [])), XS.mk none none (XI.k (XK.store 5 (Operand.tmp 2) (Operand.tmp 18))), XS.mk (some 3) none (XI.k (XK.mov (Operand.const (Value.int IntKind.i64 2))))]) (.ret)
def T15n1 : XC := .seq (.ops [XS.mk (some 37) none (XI.k (XK.build [Value.int IntKind.i64 0, Value.int IntKind.i64 0, Value.int IntKind.i64 0, Value.int IntKind.i64 0, Value.int IntKind.i64 0] [])), XS.mk none none (XI.k (XK.store 5 (Operand.tmp 2) (Operand.tmp 37))), XS.mk (some 3) none (XI.k (XK.mov (Operand.const (Value.int IntKind.i64 2))))]) (.ret)
def T15n2 : XC := .ops [XS.mk (some 38) none (XI.k (XK.mov (Operand.tmp 5))), XS.mk (some 39) none (XI.k (XK.mov (Operand.tmp 7))), XS.mk (some 40) none (XI.k (XK.buildS 3 1 1 [Value.int IntKind.i64 0] [(0, Operand.tmp 39)])), XS.mk (some 41) none (XI.k (XK.app 3 1 8 (Operand.tmp 38) (Operand.tmp 40))), XS.mk (some 5) none (XI.k (XK.mov (Operand.tmp 41)))]
def T15n3 : XC := .seq (.seq (.ops [XS.mk (some 35) none (XI.k (XK.mov (Operand.tmp 8))), XS.mk (some 36) none (XI.k (XK.not (Operand.tmp 35)))]) (.cond (Operand.tmp 36) (.ref 1) (.skip))) (.ref 2)
def T15n4 : XC := .ops [XS.mk (some 25) none (XI.k (XK.mov (Operand.tmp 6))), XS.mk (some 26) none (XI.k (XK.arith BinOp.add IntKind.i64 (Operand.tmp 25) (Operand.const (Value.int IntKind.i64 1)))), XS.mk (some 6) none (XI.k (XK.mov (Operand.tmp 26)))]
def T15n5 : XC := .seq (.blk 1 (.seq (.ops [XS.mk (some 28) none (XI.k (XK.mov (Operand.tmp 4))), XS.mk (some 29) none (XI.k (XK.mov (Operand.tmp 6))), XS.mk (some 30) none (XI.k (XK.idx 1 (Operand.tmp 28) (Operand.tmp 29))), XS.mk (some 31) none (XI.k (XK.load [CK.str] false (Operand.tmp 30))), XS.mk (some 32) none (XI.call 39 [Operand.tmp 31]), XS.mk (some 27) none (XI.k (XK.mov (Operand.tmp 32))), XS.mk (some 33) none (XI.k (XK.ext (Operand.tmp 27) 0)), XS.mk (some 34) none (XI.k (XK.ext (Operand.tmp 27) 1)), XS.mk (some 7) none (XI.k (XK.mov (Operand.tmp 33))), XS.mk (some 8) none (XI.k (XK.mov (Operand.tmp 34)))]) (.ref 3))) (.ref 4)
def T15n6 : XC := .seq (.seq (.ops [XS.mk (some 21) none (XI.k (XK.mov (Operand.tmp 6))), XS.mk (some 22) none (XI.k (XK.mov (Operand.tmp 4))), XS.mk (some 23) none (XI.k (XK.lenS (Operand.tmp 22))), XS.mk (some 24) none (XI.k (XK.cmp BinOp.lss IntKind.i64 (Operand.tmp 21) (Operand.tmp 23)))]) (.cond (Operand.tmp 24) (.skip) (.exit 0))) (.ref 5)
def T15n7 : XC := .seq (.ops [XS.mk (some 71) none (XI.k (XK.load [CK.int IntKind.i64, CK.int IntKind.i64, CK.int IntKind.i64, CK.int IntKind.i64, CK.int IntKind.i64] true (Operand.tmp 9))), XS.mk none none (XI.k (XK.store 5 (Operand.tmp 2) (Operand.tmp 71))), XS.mk (some 3) none (XI.k (XK.mov (Operand.const (Value.int IntKind.i64 0))))]) (.ret)
def T15n8 : XC := .seq (.ops [XS.mk (some 67) none (XI.k (XK.load [CK.int IntKind.i64, CK.int IntKind.i64, CK.int IntKind.i64, CK.int IntKind.i64, CK.int IntKind.i64] true (Operand.tmp 9))), XS.mk (some 68) none (XI.call 17 [Operand.tmp 67]), XS.mk (some 69) none (XI.k (XK.mov (Operand.tmp 0))), XS.mk (some 70) none (XI.k (XK.eqs BinOp.eql (Operand.tmp 68) (Operand.tmp 69)))]) (.cond (Operand.tmp 70) (.ref 7) (.skip))
def T15n9 : XC := .seq (.ops [XS.mk (some 51) none (XI.k (XK.mov (Operand.tmp 5))), XS.mk (some 52) none (XI.k (XK.idx 1 (Operand.tmp 51) (Operand.const (Value.int IntKind.i64 0)))), XS.mk (some 53) none (XI.k (XK.load [CK.int IntKind.i64] false (Operand.tmp 52))), XS.mk (some 54) none (XI.k (XK.mov (Operand.tmp 5))), XS.mk (some 55) none (XI.k (XK.idx 1 (Operand.tmp 54) (Operand.const (Value.int IntKind.i64 1)))), XS.mk (some 56) none (XI.k (XK.load [CK.int IntKind.i64] false (Operand.tmp 55))), XS.mk (some 57) none (XI.k (XK.mov (Operand.tmp 5))), XS.mk (some 58) none (XI.k (XK.idx 1 (Operand.tmp 57) (Operand.const (Value.int IntKind.i64 2)))), XS.mk (some 59) none (XI.k (XK.load [CK.int IntKind.i64] false (Operand.tmp 58))), XS.mk (some 60) none (XI.k (XK.mov (Operand.tmp 5))), XS.mk (some 61) none (XI.k (XK.idx 1 (Operand.tmp 60) (Operand.const (Value.int IntKind.i64 3)))), XS.mk (some 62) none (XI.k (XK.load [CK.int IntKind.i64] false (Operand.tmp 61))), XS.mk (some 63) none (XI.k (XK.mov (Operand.tmp 5))), XS.mk (some 64) none (XI.k (XK.idx 1 (Operand.tmp 63) (Operand.const (Value.int IntKind.i64 4)))), XS.mk (some 65) none (XI.k (XK.load [CK.int IntKind.i64] false (Operand.tmp 64))), XS.mk (some 66) none (XI.k (XK.build [Value.int IntKind.i64 0, Value.int IntKind.i64 0, Value.int IntKind.i64 0, Value.int IntKind.i64 0, Value.int IntKind.i64 0] [(0, 1, Operand.tmp 53), (1, 1, Operand.tmp 56), (2, 1, Operand.tmp 59), (3, 1, Operand.tmp 62), (4, 1, Operand.tmp 65)])), XS.mk (some 9) none (XI.k (XK.alloc 23 [Value.int IntKind.i64 0, Value.int IntKind.i64 0, Value.int IntKind.i64 0, Value.int IntKind.i64 0, Value.int IntKind.i64 0])), XS.mk none none (XI.k (XK.store 5 (Operand.tmp 9) (Operand.tmp 66)))]) (.ref 8)
def T15n10 : XC := .ops [XS.mk (some 102) none (XI.k (XK.mov (Operand.tmp 14))), XS.mk (some 103) none (XI.k (XK.arith BinOp.add IntKind.i64 (Operand.tmp 102) (Operand.const (Value.int IntKind.i64 1)))), XS.mk (some 14) none (XI.k (XK.mov (Operand.tmp 103)))]
def T15n11 : XC := .seq (.ops [XS.mk (some 97) none (XI.k (XK.mov (Operand.tmp 5))), XS.mk (some 98) none (XI.k (XK.mov (Operand.tmp 14))), XS.mk (some 99) none (XI.k (XK.idx 1 (Operand.tmp 97) (Operand.tmp 98))), XS.mk (some 100) none (XI.k (XK.load [CK.int IntKind.i64] false (Operand.tmp 99))), XS.mk (some 101) none (XI.k (XK.fld 1 (Operand.tmp 13))), XS.mk none none (XI.k (XK.store 1 (Operand.tmp 101) (Operand.tmp 100)))]) (.ref 10)
def T15n12 : XC := .ops [XS.mk (some 117) none (XI.k (XK.mov (Operand.tmp 14))), XS.mk (some 118) none (XI.k (XK.arith BinOp.add IntKind.i64 (Operand.tmp 117) (Operand.const (Value.int IntKind.i64 1)))), XS.mk (some 14) none (XI.k (XK.mov (Operand.tmp 118)))]
def T15n13 : XC := .seq (.ops [XS.mk (some 112) none (XI.k (XK.mov (Operand.tmp 5))), XS.mk (some 113) none (XI.k (XK.mov (Operand.tmp 14))), XS.mk (some 114) none (XI.k (XK.idx 1 (Operand.tmp 112) (Operand.tmp 113))), XS.mk (some 115) none (XI.k (XK.load [CK.int IntKind.i64] false (Operand.tmp 114))), XS.mk (some 116) none (XI.k (XK.fld 2 (Operand.tmp 13))), XS.mk none none (XI.k (XK.store 1 (Operand.tmp 116) (Operand.tmp 115)))]) (.ref 12)
def T15n14 : XC := .ops [XS.mk (some 132) none (XI.k (XK.mov (Operand.tmp 14))), XS.mk (some 133) none (XI.k (XK.arith BinOp.add IntKind.i64 (Operand.tmp 132) (Operand.const (Value.int IntKind.i64 1)))), XS.mk (some 14) none (XI.k (XK.mov (Operand.tmp 133)))]
def T15n15 : XC := .seq (.ops [XS.mk (some 127) none (XI.k (XK.mov (Operand.tmp 5))), XS.mk (some 128) none (XI.k (XK.mov (Operand.tmp 14))), XS.mk (some 129) none (XI.k (XK.idx 1 (Operand.tmp 127) (Operand.tmp 128))), XS.mk (some 130) none (XI.k (XK.load [CK.int IntKind.i64] false (Operand.tmp 129))), XS.mk (some 131) none (XI.k (XK.fld 3 (Operand.tmp 13))), XS.mk none none (XI.k (XK.store 1 (Operand.tmp 131) (Operand.tmp 130)))]) (.ref 14)
def T15n16 : XC := .ops [XS.mk (some 142) none (XI.k (XK.mov (Operand.tmp 5))), XS.mk (some 143) none (XI.k (XK.mov (Operand.tmp 14))), XS.mk (some 144) none (XI.k (XK.idx 1 (Operand.tmp 142) (Operand.tmp 143))), XS.mk (some 145) none (XI.k (XK.load [CK.int IntKind.i64] false (Operand.tmp 144))), XS.mk (some 146) none (XI.k (XK.fld 4 (Operand.tmp 13))), XS.mk none none (XI.k (XK.store 1 (Operand.tmp 146) (Operand.tmp 145)))]
def T15n17 : XC := .seq (.ops [XS.mk (some 151) none (XI.k (XK.load [CK.int IntKind.i64, CK.int IntKind.i64, CK.int IntKind.i64, CK.int IntKind.i64, CK.int IntKind.i64] true (Operand.tmp 13))), XS.mk none none (XI.k (XK.store 5 (Operand.tmp 2) (Operand.tmp 151))), XS.mk (some 3) none (XI.k (XK.mov (Operand.const (Value.int IntKind.i64 0))))]) (.ret)
def T15n18 : XC := .seq (.ops [XS.mk (some 147) none (XI.k (XK.load [CK.int IntKind.i64, CK.int IntKind.i64, CK.int IntKind.i64, CK.int IntKind.i64, CK.int IntKind.i64] true (Operand.tmp 13))), XS.mk (some 148) none (XI.call 17 [Operand.tmp 147]), XS.mk (some 149) none (XI.k (XK.mov (Operand.tmp 0))), XS.mk (some 150) none (XI.k (XK.eqs BinOp.eql (Operand.tmp 148) (Operand.tmp 149)))]) (.cond (Operand.tmp 150) (.ref 17) (.skip))
def T15n19 : XC := .seq (.seq (.ops [XS.mk (some 134) none (XI.k (XK.fld 4 (Operand.tmp 11))), XS.mk (some 135) none (XI.k (XK.load [CK.bool] false (Operand.tmp 134))), XS.mk (some 136) none (XI.k (XK.mov (Operand.tmp 135))), XS.mk (some 137) (some (136, true)) (XI.k (XK.mov (Operand.tmp 14))), XS.mk (some 138) (some (136, true)) (XI.k (XK.mov (Operand.tmp 5))), XS.mk (some 139) (some (136, true)) (XI.k (XK.lenS (Operand.tmp 138))), XS.mk (some 140) (some (136, true)) (XI.k (XK.cmp BinOp.lss IntKind.i64 (Operand.tmp 137) (Operand.tmp 139))), XS.mk (some 141) none (XI.k (XK.pick (Operand.tmp 136) (Operand.tmp 140) (Operand.const (Value.bool false))))]) (.cond (Operand.tmp 141) (.ref 16) (.skip))) (.ref 18)
def T15n20 : XC := .seq (.seq (.ops [XS.mk (some 119) none (XI.k (XK.fld 3 (Operand.tmp 11))), XS.mk (some 120) none (XI.k (XK.load [CK.bool] false (Operand.tmp 119))), XS.mk (some 121) none (XI.k (XK.mov (Operand.tmp 120))), XS.mk (some 122) (some (121, true)) (XI.k (XK.mov (Operand.tmp 14))), XS.mk (some 123) (some (121, true)) (XI.k (XK.mov (Operand.tmp 5))), XS.mk (some 124) (some (121, true)) (XI.k (XK.lenS (Operand.tmp 123))), XS.mk (some 125) (some (121, true)) (XI.k (XK.cmp BinOp.lss IntKind.i64 (Operand.tmp 122) (Operand.tmp 124))), XS.mk (some 126) none (XI.k (XK.pick (Operand.tmp 121) (Operand.tmp 125) (Operand.const (Value.bool false))))]) (.cond (Operand.tmp 126) (.ref 15) (.skip))) (.ref 19)
def T15n21 : XC := .seq (.seq (.ops [XS.mk (some 104) none (XI.k (XK.fld 2 (Operand.tmp 11))), XS.mk (some 105) none (XI.k (XK.load [CK.bool] false (Operand.tmp 104))), XS.mk (some 106) none (XI.k (XK.mov (Operand.tmp 105))), XS.mk (some 107) (some (106, true)) (XI.k (XK.mov (Operand.tmp 14))), XS.mk (some 108) (some (106, true)) (XI.k (XK.mov (Operand.tmp 5))), XS.mk (some 109) (some (106, true)) (XI.k (XK.lenS (Operand.tmp 108))), XS.mk (some 110) (some (106, true)) (XI.k (XK.cmp BinOp.lss IntKind.i64 (Operand.tmp 107) (Operand.tmp 109))), XS.mk (some 111) none (XI.k (XK.pick (Operand.tmp 106) (Operand.tmp 110) (Operand.const (Value.bool false))))]) (.cond (Operand.tmp 111) (.ref 13) (.skip))) (.ref 20)
def T15n22 : XC := .seq (.seq (.ops [XS.mk (some 89) none (XI.k (XK.fld 1 (Operand.tmp 11))), XS.mk (some 90) none (XI.k (XK.load [CK.bool] false (Operand.tmp 89))), XS.mk (some 91) none (XI.k (XK.mov (Operand.tmp 90))), XS.mk (some 92) (some (91, true)) (XI.k (XK.mov (Operand.tmp 14))), XS.mk (some 93) (some (91, true)) (XI.k (XK.mov (Operand.tmp 5))), XS.mk (some 94) (some (91, true)) (XI.k (XK.lenS (Operand.tmp 93))), XS.mk (some 95) (some (91, true)) (XI.k (XK.cmp BinOp.lss IntKind.i64 (Operand.tmp 92) (Operand.tmp 94))), XS.mk (some 96) none (XI.k (XK.pick (Operand.tmp 91) (Operand.tmp 95) (Operand.const (Value.bool false))))]) (.cond (Operand.tmp 96) (.ref 11) (.skip))) (.ref 21)
def T15n23 : XC := .seq (.ops [XS.mk (some 14) none (XI.k (XK.mov (Operand.const (Value.int IntKind.i64 0))))]) (.ref 22)
def T15n24 : XC := .seq (.ops [XS.mk (some 87) none (XI.k (XK.mov (Operand.tmp 10))), XS.mk (some 88) none (XI.k (XK.build [Value.int IntKind.i64 0, Value.int IntKind.i64 0, Value.int IntKind.i64 0, Value.int IntKind.i64 0, Value.int IntKind.i64 0] [(0, 1, Operand.tmp 87)])), XS.mk (some 13) none (XI.k (XK.alloc 23 [Value.int IntKind.i64 0, Value.int IntKind.i64 0, Value.int IntKind.i64 0, Value.int IntKind.i64 0, Value.int IntKind.i64 0])), XS.mk none none (XI.k (XK.store 5 (Operand.tmp 13) (Operand.tmp 88)))]) (.ref 23)
def T15n25 : XC := .seq (.seq (.ops [XS.mk (some 81) none (XI.k (XK.fld 0 (Operand.tmp 11))), XS.mk (some 82) none (XI.k (XK.load [CK.str] false (Operand.tmp 81))), XS.mk (some 83) none (XI.k (XK.mov (Operand.tmp 4))), XS.mk (some 84) none (XI.k (XK.idx 1 (Operand.tmp 83) (Operand.const (Value.int IntKind.i64 0)))), XS.mk (some 85) none (XI.k (XK.load [CK.str] false (Operand.tmp 84))), XS.mk (some 86) none (XI.k (XK.eqs BinOp.neq (Operand.tmp 82) (Operand.tmp 85)))]) (.cond (Operand.tmp 86) (.exit 3) (.skip))) (.ref 24)
def T15n26 : XC := .ops [XS.mk (some 74) none (XI.k (XK.mov (Operand.tmp 10))), XS.mk (some 75) none (XI.k (XK.arith BinOp.add IntKind.i64 (Operand.tmp 74) (Operand.const (Value.int IntKind.i64 1)))), XS.mk (some 10) none (XI.k (XK.mov (Operand.tmp 75)))]
def T15n27 : XC := .seq (.blk 3 (.seq (.ops [XS.mk (some 77) none (XI.k (XK.mov (Operand.tmp 10))), XS.mk (some 78) none (XI.call 29 [Operand.tmp 77]), XS.mk (some 76) none (XI.k (XK.mov (Operand.tmp 78))), XS.mk (some 79) none (XI.k (XK.ext (Operand.tmp 76) 0)), XS.mk (some 80) none (XI.k (XK.ext (Operand.tmp 76) 1)), XS.mk (some 11) none (XI.k (XK.alloc 61 [Value.string (ByteArray.mk (Array.mk [])), Value.bool false, Value.bool false, Value.bool false, Value.bool false])), XS.mk none none (XI.k (XK.store 5 (Operand.tmp 11) (Operand.tmp 79))), XS.mk (some 12) none (XI.k (XK.mov (Operand.tmp 80)))]) (.ref 25))) (.ref 26)
def T15n28 : XC := .seq (.seq (.ops [XS.mk (some 72) none (XI.k (XK.mov (Operand.tmp 10))), XS.mk (some 73) none (XI.k (XK.cmp BinOp.leq IntKind.i64 (Operand.tmp 72) (Operand.const (Value.int IntKind.i64 18))))]) (.cond (Operand.tmp 73) (.skip) (.exit 2))) (.ref 27)
def T15n29 : XC := .seq (.ops [XS.mk (some 152) none (XI.k (XK.build [Value.int IntKind.i64 0, Value.int IntKind.i64 0, Value.int IntKind.i64 0, Value.int IntKind.i64 0, Value.int IntKind.i64 0] [])), XS.mk none none (XI.k (XK.store 5 (Operand.tmp 2) (Operand.tmp 152))), XS.mk (some 3) none (XI.k (XK.mov (Operand.const (Value.int IntKind.i64 2))))]) (.ret)
def T15n30 : XC := .seq (.seq (.ops [XS.mk (some 10) none (XI.k (XK.mov (Operand.const (Value.int IntKind.i64 1))))]) (.blk 2 (.loop (.ref 28)))) (.ref 29)
def T15n31 : XC := .seq (.seq (.ops [XS.mk (some 42) none (XI.k (XK.mov (Operand.tmp 4))), XS.mk (some 43) none (XI.k (XK.idx 1 (Operand.tmp 42) (Operand.const (Value.int IntKind.i64 0)))), XS.mk (some 44) none (XI.k (XK.load [CK.str] false (Operand.tmp 43))), XS.mk (some 45) none (XI.k (XK.eqs BinOp.eql (Operand.tmp 44) (Operand.const (Value.string (ByteArray.mk (Array.mk [UInt8.ofNat 114, UInt8.ofNat 97, UInt8.ofNat 119])))))), XS.mk (some 46) none (XI.k (XK.mov (Operand.tmp 45))), XS.mk (some 47) (some (46, true)) (XI.k (XK.mov (Operand.tmp 5))), XS.mk (some 48) (some (46, true)) (XI.k (XK.lenS (Operand.tmp 47))), XS.mk (some 49) (some (46, true)) (XI.k (XK.cmp BinOp.eql IntKind.i64 (Operand.tmp 48) (Operand.const (Value.int IntKind.i64 5)))), XS.mk (some 50) none (XI.k (XK.pick (Operand.tmp 46) (Operand.tmp 49) (Operand.const (Value.bool false))))]) (.cond (Operand.tmp 50) (.ref 9) (.skip))) (.ref 30)
def T15n32 : XC := .seq (.seq (.ops [XS.mk (some 6) none (XI.k (XK.mov (Operand.const (Value.int IntKind.i64 1))))]) (.blk 0 (.loop (.ref 6)))) (.ref 31)
def T15n33 : XC := .seq (.ops [XS.mk (some 5) none (XI.k (XK.mov (Operand.const (Value.slice none 0 0))))]) (.ref 32)
def T15n34 : XC := .seq (.ops [XS.mk (some 19) none (XI.k (XK.mov (Operand.tmp 0))), XS.mk (some 20) none (XI.call 38 [Operand.tmp 19]), XS.mk (some 4) none (XI.k (XK.mov (Operand.tmp 20)))]) (.ref 33)
def T15n35 : XC := .seq (.seq (.ops [XS.mk (some 15) none (XI.k (XK.mov (Operand.tmp 0))), XS.mk (some 16) none (XI.k (XK.lenT (Operand.tmp 15))), XS.mk (some 17) none (XI.k (XK.cmp BinOp.gtr IntKind.i64 (Operand.tmp 16) (Operand.const (Value.int IntKind.i64 200))))]) (.cond (Operand.tmp 17) (.ref 0) (.skip))) (.ref 34)
def T15 : Nat → XC
  | 0 => T15n0
  | 1 => T15n1
  | 2 => T15n2
  | 3 => T15n3
  | 4 => T15n4
  | 5 => T15n5
  | 6 => T15n6
  | 7 => T15n7
  | 8 => T15n8
  | 9 => T15n9
  | 10 => T15n10
  | 11 => T15n11
  | 12 => T15n12
  | 13 => T15n13
  | 14 => T15n14
  | 15 => T15n15
  | 16 => T15n16
  | 17 => T15n17
  | 18 => T15n18
  | 19 => T15n19
  | 20 => T15n20
  | 21 => T15n21
  | 22 => T15n22
  | 23 => T15n23
  | 24 => T15n24
  | 25 => T15n25
  | 26 => T15n26
  | 27 => T15n27
  | 28 => T15n28
  | 29 => T15n29
  | 30 => T15n30
  | 31 => T15n31
  | 32 => T15n32
  | 33 => T15n33
  | 34 => T15n34
  | 35 => T15n35
  | _ => .skip
theorem t15n0 : T15 0 = T15n0 := rfl
theorem t15n1 : T15 1 = T15n1 := rfl
theorem t15n2 : T15 2 = T15n2 := rfl
theorem t15n3 : T15 3 = T15n3 := rfl
theorem t15n4 : T15 4 = T15n4 := rfl
theorem t15n5 : T15 5 = T15n5 := rfl
theorem t15n6 : T15 6 = T15n6 := rfl
theorem t15n7 : T15 7 = T15n7 := rfl
theorem t15n8 : T15 8 = T15n8 := rfl
theorem t15n9 : T15 9 = T15n9 := rfl
theorem t15n10 : T15 10 = T15n10 := rfl
theorem t15n11 : T15 11 = T15n11 := rfl
theorem t15n12 : T15 12 = T15n12 := rfl
theorem t15n13 : T15 13 = T15n13 := rfl
theorem t15n14 : T15 14 = T15n14 := rfl
theorem t15n15 : T15 15 = T15n15 := rfl
theorem t15n16 : T15 16 = T15n16 := rfl
theorem t15n17 : T15 17 = T15n17 := rfl
theorem t15n18 : T15 18 = T15n18 := rfl
theorem t15n19 : T15 19 = T15n19 := rfl
theorem t15n20 : T15 20 = T15n20 := rfl
theorem t15n21 : T15 21 = T15n21 := rfl
theorem t15n22 : T15 22 = T15n22 := rfl
theorem t15n23 : T15 23 = T15n23 := rfl
theorem t15n24 : T15 24 = T15n24 := rfl
theorem t15n25 : T15 25 = T15n25 := rfl
theorem t15n26 : T15 26 = T15n26 := rfl
theorem t15n27 : T15 27 = T15n27 := rfl
theorem t15n28 : T15 28 = T15n28 := rfl
theorem t15n29 : T15 29 = T15n29 := rfl
theorem t15n30 : T15 30 = T15n30 := rfl
theorem t15n31 : T15 31 = T15n31 := rfl
theorem t15n32 : T15 32 = T15n32 := rfl
theorem t15n33 : T15 33 = T15n33 := rfl
theorem t15n34 : T15 34 = T15n34 := rfl
theorem t15n35 : T15 35 = T15n35 := rfl
def X15 : XC := .seq (.ops [XS.mk (some 2) none (XI.k (XK.alloc 23 [Value.int IntKind.i64 0, Value.int IntKind.i64 0, Value.int IntKind.i64 0, Value.int IntKind.i64 0, Value.int IntKind.i64 0])), XS.mk (some 3) none (XI.k (XK.mov (Operand.const (Value.int IntKind.i64 0))))]) (.ref 35)
abbrev K15 : List Nat := [0, 2, 3, 4, 5, 6, 7, 8, 9, 10, 11, 13, 14, 17, 24, 36, 50, 70, 73, 86, 96, 111, 126, 141, 150]
theorem n15 : Tryd.f15.ntmps = 153 := by kernel_rfl
theorem r15 : rvOf Tryd.prog Tryd.f15.results.toList = some [RV.cell 2 5 true, RV.tmp 3] := by kernel_rfl
theorem x15 : cmpF Tryd.prog Tryd.f15 = some (expand T15 37 X15) := by kernel_rfl
def T17n0 : XC := .seq (.ops [XS.mk (some 59) none (XI.k (XK.fld 0 (Operand.tmp 1))), XS.mk (some 64) none (XI.k (XK.fld 1 (Operand.tmp 1))), XS.mk (some 69) none (XI.k (XK.fld 2 (Operand.tmp 1))), XS.mk (some 74) none (XI.k (XK.fld 3 (Operand.tmp 1))), XS.mk (some 79) none (XI.k (XK.fld 4 (Operand.tmp 1))), XS.mk (some 60) none (XI.k (XK.load [CK.int IntKind.i64] false (Operand.tmp 59))), XS.mk (some 65) none (XI.k (XK.load [CK.int IntKind.i64] false (Operand.tmp 64))), XS.mk (some 70) none (XI.k (XK.load [CK.int IntKind.i64] false (Operand.tmp 69))), XS.mk (some 75) none (XI.k (XK.load [CK.int IntKind.i64] false (Operand.tmp 74))), XS.mk (some 80) none (XI.k (XK.load [CK.int IntKind.i64] false (Operand.tmp 79))), XS.mk (some 61) none (XI.call 42 [Operand.tmp 60]), XS.mk none none (XI.still 80 (XK.load [CK.int IntKind.i64] false (Operand.tmp 79))), XS.mk none none (XI.still 75 (XK.load [CK.int IntKind.i64] false (Operand.tmp 74))), XS.mk none none (XI.still 70 (XK.load [CK.int IntKind.i64] false (Operand.tmp 69))), XS.mk none none (XI.still 65 (XK.load [CK.int IntKind.i64] false (Operand.tmp 64))), XS.mk (some 62) none (XI.k (XK.cat (Operand.const (Value.string (ByteArray.mk (Array.mk [UInt8.ofNat 114, UInt8.ofNat 97, UInt8.ofNat 119, UInt8.ofNat 32])))) (Operand.tmp 61))), XS.mk (some 63) none (XI.k (XK.cat (Operand.tmp 62) (Operand.const (Value.string (ByteArray.mk (Array.mk [UInt8.ofNat 32])))))), XS.mk (some 66) none (XI.call 42 [Operand.tmp 65]), XS.mk none none (XI.still 80 (XK.load [CK.int IntKind.i64] false (Operand.tmp 79))), XS.mk none none (XI.still 75 (XK.load [CK.int IntKind.i64] false (Operand.tmp 74))), XS.mk none none (XI.still 70 (XK.load [CK.int IntKind.i64] false (Operand.tmp 69))), XS.mk (some 67) none (XI.k (XK.cat (Operand.tmp 63) (Operand.tmp 66))), XS.mk (some 68) none (XI.k (XK.cat (Operand.tmp 67) (Operand.const (Value.string (ByteArray.mk (Array.mk [UInt8.ofNat 32])))))), XS.mk (some 71) none (XI.call 42 [Operand.tmp 70]), XS.mk none none (XI.still 80 (XK.load [CK.int IntKind.i64] false (Operand.tmp 79))), XS.mk none none (XI.still 75 (XK.load [CK.int IntKind.i64] false (Operand.tmp 74))), XS.mk (some 72) none (XI.k (XK.cat (Operand.tmp 68) (Operand.tmp 71))), XS.mk (some 73) none (XI.k (XK.cat (Operand.tmp 72) (Operand.const (Value.string (ByteArray.mk (Array.mk [UInt8.ofNat 32])))))), XS.mk (some 76) none (XI.call 42 [Operand.tmp 75]), XS.mk none none (XI.still 80 (XK.load [CK.int IntKind.i64] false (Operand.tmp 79))), XS.mk (some 77) none (XI.k (XK.cat (Operand.tmp 73) (Operand.tmp 76))), XS.mk (some 78) none (XI.k (XK.cat (Operand.tmp 77) (Operand.const (Value.string (ByteArray.mk (Array.mk [UInt8.ofNat 32])))))), XS.mk (some 81) none (XI.call 42 [Operand.tmp 80]), XS.mk (some 82) none (XI.k (XK.cat (Operand.tmp 78) (Operand.tmp 81))), XS.mk (some 2) none (XI.k (XK.mov (Operand.tmp 82)))]) (.ret)
def T17n1 : XC := .ops [XS.mk (some 87) none (XI.k (XK.mov (Operand.tmp 5))), XS.mk (some 88) none (XI.k (XK.cat (Operand.tmp 87) (Operand.const (Value.string (ByteArray.mk (Array.mk [UInt8.ofNat 32])))))), XS.mk (some 89) none (XI.k (XK.fld 1 (Operand.tmp 1))), XS.mk (some 90) none (XI.k (XK.load [CK.int IntKind.i64] false (Operand.tmp 89))), XS.mk (some 91) none (XI.call 42 [Operand.tmp 90]), XS.mk (some 92) none (XI.k (XK.cat (Operand.tmp 88) (Operand.tmp 91))), XS.mk (some 5) none (XI.k (XK.mov (Operand.tmp 92)))]
def T17n2 : XC := .ops [XS.mk (some 95) none (XI.k (XK.mov (Operand.tmp 5))), XS.mk (some 96) none (XI.k (XK.cat (Operand.tmp 95) (Operand.const (Value.string (ByteArray.mk (Array.mk [UInt8.ofNat 32])))))), XS.mk (some 97) none (XI.k (XK.fld 2 (Operand.tmp 1))), XS.mk (some 98) none (XI.k (XK.load [CK.int IntKind.i64] false (Operand.tmp 97))), XS.mk (some 99) none (XI.call 42 [Operand.tmp 98]), XS.mk (some 100) none (XI.k (XK.cat (Operand.tmp 96) (Operand.tmp 99))), XS.mk (some 5) none (XI.k (XK.mov (Operand.tmp 100)))]
def T17n3 : XC := .ops [XS.mk (some 103) none (XI.k (XK.mov (Operand.tmp 5))), XS.mk (some 104) none (XI.k (XK.cat (Operand.tmp 103) (Operand.const (Value.string (ByteArray.mk (Array.mk [UInt8.ofNat 32])))))), XS.mk (some 105) none (XI.k (XK.fld 3 (Operand.tmp 1))), XS.mk (some 106) none (XI.k (XK.load [CK.int IntKind.i64] false (Operand.tmp 105))), XS.mk (some 107) none (XI.call 42 [Operand.tmp 106]), XS.mk (some 108) none (XI.k (XK.cat (Operand.tmp 104) (Operand.tmp 107))), XS.mk (some 5) none (XI.k (XK.mov (Operand.tmp 108)))]
def T17n4 : XC := .ops [XS.mk (some 111) none (XI.k (XK.mov (Operand.tmp 5))), XS.mk (some 112) none (XI.k (XK.cat (Operand.tmp 111) (Operand.const (Value.string (ByteArray.mk (Array.mk [UInt8.ofNat 32])))))), XS.mk (some 113) none (XI.k (XK.fld 4 (Operand.tmp 1))), XS.mk (some 114) none (XI.k (XK.load [CK.int IntKind.i64] false (Operand.tmp 113))), XS.mk (some 115) none (XI.call 42 [Operand.tmp 114]), XS.mk (some 116) none (XI.k (XK.cat (Operand.tmp 112) (Operand.tmp 115))), XS.mk (some 5) none (XI.k (XK.mov (Operand.tmp 116)))]
def T17n5 : XC := .seq (.ops [XS.mk (some 117) none (XI.k (XK.mov (Operand.tmp 5))), XS.mk (some 2) none (XI.k (XK.mov (Operand.tmp 117)))]) (.ret)
def T17n6 : XC := .seq (.seq (.ops [XS.mk (some 109) none (XI.k (XK.fld 4 (Operand.tmp 3))), XS.mk (some 110) none (XI.k (XK.load [CK.bool] false (Operand.tmp 109)))]) (.cond (Operand.tmp 110) (.ref 4) (.skip))) (.ref 5)
def T17n7 : XC := .seq (.seq (.ops [XS.mk (some 101) none (XI.k (XK.fld 3 (Operand.tmp 3))), XS.mk (some 102) none (XI.k (XK.load [CK.bool] false (Operand.tmp 101)))]) (.cond (Operand.tmp 102) (.ref 3) (.skip))) (.ref 6)
def T17n8 : XC := .seq (.seq (.ops [XS.mk (some 93) none (XI.k (XK.fld 2 (Operand.tmp 3))), XS.mk (some 94) none (XI.k (XK.load [CK.bool] false (Operand.tmp 93)))]) (.cond (Operand.tmp 94) (.ref 2) (.skip))) (.ref 7)
def T17n9 : XC := .seq (.seq (.ops [XS.mk (some 85) none (XI.k (XK.fld 1 (Operand.tmp 3))), XS.mk (some 86) none (XI.k (XK.load [CK.bool] false (Operand.tmp 85)))]) (.cond (Operand.tmp 86) (.ref 1) (.skip))) (.ref 8)
def T17n10 : XC := .seq (.ops [XS.mk (some 83) none (XI.k (XK.fld 0 (Operand.tmp 3))), XS.mk (some 84) none (XI.k (XK.load [CK.str] false (Operand.tmp 83))), XS.mk (some 5) none (XI.k (XK.mov (Operand.tmp 84)))]) (.ref 9)
def T17n11 : XC := .seq (.seq (.ops [XS.mk (some 12) none (XI.k (XK.mov (Operand.tmp 4))), XS.mk (some 13) none (XI.k (XK.not (Operand.tmp 12))), XS.mk (some 14) none (XI.k (XK.mov (Operand.tmp 13))), XS.mk (some 15) (some (14, false)) (XI.k (XK.load [CK.int IntKind.i64, CK.int IntKind.i64, CK.int IntKind.i64, CK.int IntKind.i64, CK.int IntKind.i64] true (Operand.tmp 1))), XS.mk (some 16) (some (14, false)) (XI.call 13 [Operand.tmp 15]), XS.mk (some 17) (some (14, false)) (XI.k (XK.not (Operand.tmp 16))), XS.mk (some 18) none (XI.k (XK.pick (Operand.tmp 14) (Operand.const (Value.bool true)) (Operand.tmp 17))), XS.mk (some 19) none (XI.k (XK.mov (Operand.tmp 18))), XS.mk (some 20) (some (19, false)) (XI.k (XK.fld 1 (Operand.tmp 3))), XS.mk (some 21) (some (19, false)) (XI.k (XK.load [CK.bool] false (Operand.tmp 20))), XS.mk (some 22) (some (19, false)) (XI.k (XK.not (Operand.tmp 21))), XS.mk (some 23) (some (19, false)) (XI.k (XK.mov (Operand.tmp 22))), XS.mk (some 24) (some (23, true)) (XI.k (XK.fld 1 (Operand.tmp 1))), XS.mk (some 25) (some (23, true)) (XI.k (XK.load [CK.int IntKind.i64] false (Operand.tmp 24))), XS.mk (some 26) (some (23, true)) (XI.k (XK.cmp BinOp.neq IntKind.i64 (Operand.tmp 25) (Operand.const (Value.int IntKind.i64 0)))), XS.mk (some 27) (some (19, false)) (XI.k (XK.pick (Operand.tmp 23) (Operand.tmp 26) (Operand.const (Value.bool false)))), XS.mk (some 28) none (XI.k (XK.pick (Operand.tmp 19) (Operand.const (Value.bool true)) (Operand.tmp 27))), XS.mk (some 29) none (XI.k (XK.mov (Operand.tmp 28))), XS.mk (some 30) (some (29, false)) (XI.k (XK.fld 2 (Operand.tmp 3))), XS.mk (some 31) (some (29, false)) (XI.k (XK.load [CK.bool] false (Operand.tmp 30))), XS.mk (some 32) (some (29, false)) (XI.k (XK.not (Operand.tmp 31))), XS.mk (some 33) (some (29, false)) (XI.k (XK.mov (Operand.tmp 32))), XS.mk (some 34) (some (33, true)) (XI.k (XK.fld 2 (Operand.tmp 1))), XS.mk (some 35) (some (33, true)) (XI.k (XK.load [CK.int IntKind.i64] false (Operand.tmp 34))), XS.mk (some 36) (some (33, true)) (XI.k (XK.cmp BinOp.neq IntKind.i64 (Operand.tmp 35) (Operand.const (Value.int IntKind.i64 0)))), XS.mk (some 37) (some (29, false)) (XI.k (XK.pick (Operand.tmp 33) (Operand.tmp 36) (Operand.const (Value.bool false)))), XS.mk (some 38) none (XI.k (XK.pick (Operand.tmp 29) (Operand.const (Value.bool true)) (Operand.tmp 37))), XS.mk (some 39) none (XI.k (XK.mov (Operand.tmp 38))), XS.mk (some 40) (some (39, false)) (XI.k (XK.fld 3 (Operand.tmp 3))), XS.mk (some 41) (some (39, false)) (XI.k (XK.load [CK.bool] false (Operand.tmp 40))), XS.mk (some 42) (some (39, false)) (XI.k (XK.not (Operand.tmp 41))), XS.mk (some 43) (some (39, false)) (XI.k (XK.mov (Operand.tmp 42))), XS.mk (some 44) (some (43, true)) (XI.k (XK.fld 3 (Operand.tmp 1))), XS.mk (some 45) (some (43, true)) (XI.k (XK.load [CK.int IntKind.i64] false (Operand.tmp 44))), XS.mk (some 46) (some (43, true)) (XI.k (XK.cmp BinOp.neq IntKind.i64 (Operand.tmp 45) (Operand.const (Value.int IntKind.i64 0)))), XS.mk (some 47) (some (39, false)) (XI.k (XK.pick (Operand.tmp 43) (Operand.tmp 46) (Operand.const (Value.bool false)))), XS.mk (some 48) none (XI.k (XK.pick (Operand.tmp 39) (Operand.const (Value.bool true)) (Operand.tmp 47))), XS.mk (some 49) none (XI.k (XK.mov (Operand.tmp 48))), XS.mk (some 50) (some (49, false)) (XI.k (XK.fld 4 (Operand.tmp 3))), XS.mk (some 51) (some (49, false)) (XI.k (XK.load [CK.bool] false (Operand.tmp 50))), XS.mk (some 52) (some (49, false)) (XI.k (XK.not (Operand.tmp 51))), XS.mk (some 53) (some (49, false)) (XI.k (XK.mov (Operand.tmp 52))), XS.mk (some 54) (some (53, true)) (XI.k (XK.fld 4 (Operand.tmp 1))), XS.mk (some 55) (some (53, true)) (XI.k (XK.load [CK.int IntKind.i64] false (Operand.tmp 54))), XS.mk (some 56) (some (53, true)) (XI.k (XK.cmp BinOp.neq IntKind.i64 (Operand.tmp 55) (Operand.const (Value.int IntKind.i64 0)))), XS.mk (some 57) (some (49, false)) (XI.k (XK.pick (Operand.tmp 53) (Operand.tmp 56) (Operand.const (Value.bool false)))), XS.mk (some 58) none (XI.k (XK.pick (Operand.tmp 49) (Operand.const (Value.bool true)) (Operand.tmp 57)))]) (.cond (Operand.tmp 58) (.ref 0) (.skip))) (.ref 10)
def T17n12 : XC := .seq (.ops [XS.mk (some 7) none (XI.k (XK.fld 0 (Operand.tmp 1))), XS.mk (some 8) none (XI.k (XK.load [CK.int IntKind.i64] false (Operand.tmp 7))), XS.mk (some 9) none (XI.call 29 [Operand.tmp 8]), XS.mk (some 6) none (XI.k (XK.mov (Operand.tmp 9))), XS.mk (some 10) none (XI.k (XK.ext (Operand.tmp 6) 0)), XS.mk (some 11) none (XI.k (XK.ext (Operand.tmp 6) 1)), XS.mk (some 3) none (XI.k (XK.alloc 61 [Value.string (ByteArray.mk (Array.mk [])), Value.bool false, Value.bool false, Value.bool false, Value.bool false])), XS.mk none none (XI.k (XK.store 5 (Operand.tmp 3) (Operand.tmp 10))), XS.mk (some 4) none (XI.k (XK.mov (Operand.tmp 11)))]) (.ref 11)
def T17 : Nat → XC
  | 0 => T17n0
  | 1 => T17n1
  | 2 => T17n2
  | 3 => T17n3
  | 4 => T17n4
  | 5 => T17n5
  | 6 => T17n6
  | 7 => T17n7
  | 8 => T17n8
  | 9 => T17n9
  | 10 => T17n10
  | 11 => T17n11
  | 12 => T17n12
  | _ => .skip
theorem t17n0 : T17 0 = T17n0 := rfl
theorem t17n1 : T17 1 = T17n1 := rfl
theorem t17n2 : T17 2 = T17n2 := rfl
theorem t17n3 : T17 3 = T17n3 := rfl
theorem t17n4 : T17 4 = T17n4 := rfl
theorem t17n5 : T17 5 = T17n5 := rfl
theorem t17n6 : T17 6 = T17n6 := rfl
theorem t17n7 : T17 7 = T17n7 := rfl
theorem t17n8 : T17 8 = T17n8 := rfl
theorem t17n9 : T17 9 = T17n9 := rfl
theorem t17n10 : T17 10 = T17n10 := rfl
theorem t17n11 : T17 11 = T17n11 := rfl
theorem t17n12 : T17 12 = T17n12 := rfl
def X17 : XC := .seq (.ops [XS.mk (some 1) none (XI.k (XK.box 23 5 (Operand.tmp 0))), XS.mk (some 2) none (XI.k (XK.mov (Operand.const (Value.string (ByteArray.mk (Array.mk []))))))]) (.ref 12)
abbrev K17 : List Nat := [0, 1, 2, 3, 4, 5, 58, 86, 94, 102, 110]
theorem n17 : Tryd.f17.ntmps = 118 := by kernel_rfl
theorem r17 : resT Tryd.f17.results.toList = some [2] := by kernel_rfl
theorem x17 : cmpF Tryd.prog Tryd.f17 = some (expand T17 14 X17) := by kernel_rfl
def T29n0 : XC := .seq (.ops [XS.mk (some 9) none (XI.k (XK.build [Value.string (ByteArray.mk (Array.mk [])), Value.bool false, Value.bool false, Value.bool false, Value.bool false] [(0, 1, Operand.const (Value.string (ByteArray.mk (Array.mk [UInt8.ofNat 104, UInt8.ofNat 97, UInt8.ofNat 108, UInt8.ofNat 116]))))])), XS.mk none none (XI.k (XK.store 5 (Operand.tmp 2) (Operand.tmp 9))), XS.mk (some 3) none (XI.k (XK.mov (Operand.const (Value.bool true))))]) (.ret)
def T29n1 : XC := .seq (.ops [XS.mk (some 12) none (XI.k (XK.build [Value.string (ByteArray.mk (Array.mk [])), Value.bool false, Value.bool false, Value.bool false, Value.bool false] [(0, 1, Operand.const (Value.string (ByteArray.mk (Array.mk [UInt8.ofNat 115, UInt8.ofNat 101, UInt8.ofNat 116])))), (1, 1, Operand.const (Value.bool true)), (4, 1, Operand.const (Value.bool true))])), XS.mk none none (XI.k (XK.store 5 (Operand.tmp 2) (Operand.tmp 12))), XS.mk (some 3) none (XI.k (XK.mov (Operand.const (Value.bool true))))]) (.ret)
def T29n2 : XC := .seq (.ops [XS.mk (some 15) none (XI.k (XK.build [Value.string (ByteArray.mk (Array.mk [])), Value.bool false, Value.bool false, Value.bool false, Value.bool false] [(0, 1, Operand.const (Value.string (ByteArray.mk (Array.mk [UInt8.ofNat 109, UInt8.ofNat 111, UInt8.ofNat 118])))), (1, 1, Operand.const (Value.bool true)), (2, 1, Operand.const (Value.bool true))])), XS.mk none none (XI.k (XK.store 5 (Operand.tmp 2) (Operand.tmp 15))), XS.mk (some 3) none (XI.k (XK.mov (Operand.const (Value.bool true))))]) (.ret)
def T29n3 : XC := .cond (Operand.tmp 16) (.skip) (.ops [XS.mk (some 23) none (XI.k (XK.cmp BinOp.eql IntKind.i64 (Operand.tmp 6) (Operand.const (Value.int IntKind.i64 10)))), XS.mk (some 16) none (XI.k (XK.mov (Operand.tmp 23)))])
def T29n4 : XC := .seq (.ops [XS.mk (some 22) none (XI.k (XK.cmp BinOp.eql IntKind.i64 (Operand.tmp 6) (Operand.const (Value.int IntKind.i64 9)))), XS.mk (some 16) none (XI.k (XK.mov (Operand.tmp 22)))]) (.ref 3)
def T29n5 : XC := .seq (.ops [XS.mk (some 21) none (XI.k (XK.cmp BinOp.eql IntKind.i64 (Operand.tmp 6) (Operand.const (Value.int IntKind.i64 8)))), XS.mk (some 16) none (XI.k (XK.mov (Operand.tmp 21)))]) (.cond (Operand.tmp 16) (.skip) (.ref 4))
def T29n6 : XC := .seq (.ops [XS.mk (some 20) none (XI.k (XK.cmp BinOp.eql IntKind.i64 (Operand.tmp 6) (Operand.const (Value.int IntKind.i64 7)))), XS.mk (some 16) none (XI.k (XK.mov (Operand.tmp 20)))]) (.cond (Operand.tmp 16) (.skip) (.ref 5))
def T29n7 : XC := .seq (.ops [XS.mk (some 19) none (XI.k (XK.cmp BinOp.eql IntKind.i64 (Operand.tmp 6) (Operand.const (Value.int IntKind.i64 6)))), XS.mk (some 16) none (XI.k (XK.mov (Operand.tmp 19)))]) (.cond (Operand.tmp 16) (.skip) (.ref 6))
def T29n8 : XC := .seq (.ops [XS.mk (some 18) none (XI.k (XK.cmp BinOp.eql IntKind.i64 (Operand.tmp 6) (Operand.const (Value.int IntKind.i64 5)))), XS.mk (some 16) none (XI.k (XK.mov (Operand.tmp 18)))]) (.cond (Operand.tmp 16) (.skip) (.ref 7))
def T29n9 : XC := .seq (.ops [XS.mk (some 25) none (XI.k (XK.mov (Operand.tmp 4))), XS.mk (some 26) none (XI.k (XK.mov (Operand.tmp 0))), XS.mk (some 27) none (XI.k (XK.arith BinOp.sub IntKind.i64 (Operand.tmp 26) (Operand.const (Value.int IntKind.i64 4)))), XS.mk (some 28) none (XI.k (XK.idx 1 (Operand.tmp 25) (Operand.tmp 27))), XS.mk (some 29) none (XI.k (XK.load [CK.str] false (Operand.tmp 28))), XS.mk (some 30) none (XI.k (XK.build [Value.string (ByteArray.mk (Array.mk [])), Value.bool false, Value.bool false, Value.bool false, Value.bool false] [(0, 1, Operand.tmp 29), (1, 1, Operand.const (Value.bool true)), (2, 1, Operand.const (Value.bool true)), (3, 1, Operand.const (Value.bool true))])), XS.mk none none (XI.k (XK.store 5 (Operand.tmp 2) (Operand.tmp 30))), XS.mk (some 3) none (XI.k (XK.mov (Operand.const (Value.bool true))))]) (.ret)
def T29n10 : XC := .seq (.ops [XS.mk (some 24) none (XI.k (XK.buildS 9 7 1 [Value.string (ByteArray.mk (Array.mk []))] [(0, Operand.const (Value.string (ByteArray.mk (Array.mk [UInt8.ofNat 97, UInt8.ofNat 100, UInt8.ofNat 100])))), (1, Operand.const (Value.string (ByteArray.mk (Array.mk [UInt8.ofNat 115, UInt8.ofNat 117, UInt8.ofNat 98])))), (2, Operand.const (Value.string (ByteArray.mk (Array.mk [UInt8.ofNat 109, UInt8.ofNat 117, UInt8.ofNat 108])))), (3, Operand.const (Value.string (ByteArray.mk (Array.mk [UInt8.ofNat 97, UInt8.ofNat 110, UInt8.ofNat 100])))), (4, Operand.const (Value.string (ByteArray.mk (Array.mk [UInt8.ofNat 120, UInt8.ofNat 111, UInt8.ofNat 114])))), (5, Operand.const (Value.string (ByteArray.mk (Array.mk [UInt8.ofNat 115, UInt8.ofNat 104, UInt8.ofNat 108])))), (6, Operand.const (Value.string (ByteArray.mk (Array.mk [UInt8.ofNat 115, UInt8.ofNat 104, UInt8.ofNat 114]))))])), XS.mk (some 4) none (XI.k (XK.mov (Operand.tmp 24)))]) (.ref 9)
def T29n11 : XC := .cond (Operand.tmp 31) (.skip) (.ops [XS.mk (some 36) none (XI.k (XK.cmp BinOp.eql IntKind.i64 (Operand.tmp 6) (Operand.const (Value.int IntKind.i64 16)))), XS.mk (some 31) none (XI.k (XK.mov (Operand.tmp 36)))])
def T29n12 : XC := .seq (.ops [XS.mk (some 35) none (XI.k (XK.cmp BinOp.eql IntKind.i64 (Operand.tmp 6) (Operand.const (Value.int IntKind.i64 15)))), XS.mk (some 31) none (XI.k (XK.mov (Operand.tmp 35)))]) (.ref 11)
def T29n13 : XC := .seq (.ops [XS.mk (some 34) none (XI.k (XK.cmp BinOp.eql IntKind.i64 (Operand.tmp 6) (Operand.const (Value.int IntKind.i64 14)))), XS.mk (some 31) none (XI.k (XK.mov (Operand.tmp 34)))]) (.cond (Operand.tmp 31) (.skip) (.ref 12))
def T29n14 : XC := .seq (.ops [XS.mk (some 33) none (XI.k (XK.cmp BinOp.eql IntKind.i64 (Operand.tmp 6) (Operand.const (Value.int IntKind.i64 12)))), XS.mk (some 31) none (XI.k (XK.mov (Operand.tmp 33)))]) (.cond (Operand.tmp 31) (.skip) (.ref 13))
def T29n15 : XC := .seq (.ops [XS.mk (some 38) none (XI.k (XK.mov (Operand.tmp 5))), XS.mk (some 39) none (XI.k (XK.mov (Operand.tmp 0))), XS.mk (some 40) none (XI.k (XK.arith BinOp.sub IntKind.i64 (Operand.tmp 39) (Operand.const (Value.int IntKind.i64 11)))), XS.mk (some 41) none (XI.k (XK.idx 1 (Operand.tmp 38) (Operand.tmp 40))), XS.mk (some 42) none (XI.k (XK.load [CK.str] false (Operand.tmp 41))), XS.mk (some 43) none (XI.k (XK.build [Value.string (ByteArray.mk (Array.mk [])), Value.bool false, Value.bool false, Value.bool false, Value.bool false] [(0, 1, Operand.tmp 42), (1, 1, Operand.const (Value.bool true)), (2, 1, Operand.const (Value.bool true)), (4, 1, Operand.const (Value.bool true))])), XS.mk none none (XI.k (XK.store 5 (Operand.tmp 2) (Operand.tmp 43))), XS.mk (some 3) none (XI.k (XK.mov (Operand.const (Value.bool true))))]) (.ret)
def T29n16 : XC := .seq (.ops [XS.mk (some 37) none (XI.k (XK.buildS 9 6 1 [Value.string (ByteArray.mk (Array.mk []))] [(0, Operand.const (Value.string (ByteArray.mk (Array.mk [UInt8.ofNat 108, UInt8.ofNat 111, UInt8.ofNat 97, UInt8.ofNat 100])))), (1, Operand.const (Value.string (ByteArray.mk (Array.mk [UInt8.ofNat 115, UInt8.ofNat 116, UInt8.ofNat 111, UInt8.ofNat 114, UInt8.ofNat 101])))), (2, Operand.const (Value.string (ByteArray.mk (Array.mk [])))), (3, Operand.const (Value.string (ByteArray.mk (Array.mk [UInt8.ofNat 101, UInt8.ofNat 113])))), (4, Operand.const (Value.string (ByteArray.mk (Array.mk [UInt8.ofNat 110, UInt8.ofNat 101])))), (5, Operand.const (Value.string (ByteArray.mk (Array.mk [UInt8.ofNat 108, UInt8.ofNat 116]))))])), XS.mk (some 5) none (XI.k (XK.mov (Operand.tmp 37)))]) (.ref 15)
def T29n17 : XC := .seq (.ops [XS.mk (some 46) none (XI.k (XK.build [Value.string (ByteArray.mk (Array.mk [])), Value.bool false, Value.bool false, Value.bool false, Value.bool false] [(0, 1, Operand.const (Value.string (ByteArray.mk (Array.mk [UInt8.ofNat 106, UInt8.ofNat 117, UInt8.ofNat 109, UInt8.ofNat 112])))), (4, 1, Operand.const (Value.bool true))])), XS.mk none none (XI.k (XK.store 5 (Operand.tmp 2) (Operand.tmp 46))), XS.mk (some 3) none (XI.k (XK.mov (Operand.const (Value.bool true))))]) (.ret)
def T29n18 : XC := .seq (.ops [XS.mk (some 49) none (XI.k (XK.build [Value.string (ByteArray.mk (Array.mk [])), Value.bool false, Value.bool false, Value.bool false, Value.bool false] [(0, 1, Operand.const (Value.string (ByteArray.mk (Array.mk [UInt8.ofNat 98, UInt8.ofNat 101, UInt8.ofNat 103, UInt8.ofNat 105, UInt8.ofNat 110]))))])), XS.mk none none (XI.k (XK.store 5 (Operand.tmp 2) (Operand.tmp 49))), XS.mk (some 3) none (XI.k (XK.mov (Operand.const (Value.bool true))))]) (.ret)
def T29n19 : XC := .seq (.ops [XS.mk (some 52) none (XI.k (XK.build [Value.string (ByteArray.mk (Array.mk [])), Value.bool false, Value.bool false, Value.bool false, Value.bool false] [(0, 1, Operand.const (Value.string (ByteArray.mk (Array.mk [UInt8.ofNat 101, UInt8.ofNat 110, UInt8.ofNat 100]))))])), XS.mk none none (XI.k (XK.store 5 (Operand.tmp 2) (Operand.tmp 52))), XS.mk (some 3) none (XI.k (XK.mov (Operand.const (Value.bool true))))]) (.ret)
def T29n20 : XC := .seq (.ops [XS.mk (some 51) none (XI.k (XK.cmp BinOp.eql IntKind.i64 (Operand.tmp 6) (Operand.const (Value.int IntKind.i64 18)))), XS.mk (some 50) none (XI.k (XK.mov (Operand.tmp 51)))]) (.cond (Operand.tmp 50) (.ref 19) (.skip))
def T29n21 : XC := .seq (.ops [XS.mk (some 48) none (XI.k (XK.cmp BinOp.eql IntKind.i64 (Operand.tmp 6) (Operand.const (Value.int IntKind.i64 17)))), XS.mk (some 47) none (XI.k (XK.mov (Operand.tmp 48)))]) (.cond (Operand.tmp 47) (.ref 18) (.ref 20))
def T29n22 : XC := .seq (.ops [XS.mk (some 45) none (XI.k (XK.cmp BinOp.eql IntKind.i64 (Operand.tmp 6) (Operand.const (Value.int IntKind.i64 13)))), XS.mk (some 44) none (XI.k (XK.mov (Operand.tmp 45)))]) (.cond (Operand.tmp 44) (.ref 17) (.ref 21))
def T29n23 : XC := .seq (.seq (.ops [XS.mk (some 32) none (XI.k (XK.cmp BinOp.eql IntKind.i64 (Operand.tmp 6) (Operand.const (Value.int IntKind.i64 11)))), XS.mk (some 31) none (XI.k (XK.mov (Operand.tmp 32)))]) (.cond (Operand.tmp 31) (.skip) (.ref 14))) (.cond (Operand.tmp 31) (.ref 16) (.ref 22))
def T29n24 : XC := .seq (.seq (.ops [XS.mk (some 17) none (XI.k (XK.cmp BinOp.eql IntKind.i64 (Operand.tmp 6) (Operand.const (Value.int IntKind.i64 4)))), XS.mk (some 16) none (XI.k (XK.mov (Operand.tmp 17)))]) (.cond (Operand.tmp 16) (.skip) (.ref 8))) (.cond (Operand.tmp 16) (.ref 10) (.ref 23))
def T29n25 : XC := .seq (.ops [XS.mk (some 14) none (XI.k (XK.cmp BinOp.eql IntKind.i64 (Operand.tmp 6) (Operand.const (Value.int IntKind.i64 3)))), XS.mk (some 13) none (XI.k (XK.mov (Operand.tmp 14)))]) (.cond (Operand.tmp 13) (.ref 2) (.ref 24))
def T29n26 : XC := .seq (.ops [XS.mk (some 11) none (XI.k (XK.cmp BinOp.eql IntKind.i64 (Operand.tmp 6) (Operand.const (Value.int IntKind.i64 2)))), XS.mk (some 10) none (XI.k (XK.mov (Operand.tmp 11)))]) (.cond (Operand.tmp 10) (.ref 1) (.ref 25))
def T29n27 : XC := .blk 0 (.seq (.ops [XS.mk (some 8) none (XI.k (XK.cmp BinOp.eql IntKind.i64 (Operand.tmp 6) (Operand.const (Value.int IntKind.i64 1)))), XS.mk (some 7) none (XI.k (XK.mov (Operand.tmp 8)))]) (.cond (Operand.tmp 7) (.ref 0) (.ref 26)))
def T29n28 : XC := .seq (.ops [XS.mk (some 53) none (XI.k (XK.build [Value.string (ByteArray.mk (Array.mk [])), Value.bool false, Value.bool false, Value.bool false, Value.bool false] [])), XS.mk none none (XI.k (XK.store 5 (Operand.tmp 2) (Operand.tmp 53))), XS.mk (some 3) none (XI.k (XK.mov (Operand.const (Value.bool false))))]) (.ret)
def T29n29 : XC := .seq (.seq (.ops [XS.mk (some 6) none (XI.k (XK.mov (Operand.tmp 0)))]) (.ref 27)) (.ref 28)
def T29 : Nat → XC
  | 0 => T29n0
  | 1 => T29n1
  | 2 => T29n2
  | 3 => T29n3
  | 4 => T29n4
  | 5 => T29n5
  | 6 => T29n6
  | 7 => T29n7
  | 8 => T29n8
  | 9 => T29n9
  | 10 => T29n10
  | 11 => T29n11
  | 12 => T29n12
  | 13 => T29n13
  | 14 => T29n14
  | 15 => T29n15
  | 16 => T29n16
  | 17 => T29n17
  | 18 => T29n18
  | 19 => T29n19
  | 20 => T29n20
  | 21 => T29n21
  | 22 => T29n22
  | 23 => T29n23
  | 24 => T29n24
  | 25 => T29n25
  | 26 => T29n26
  | 27 => T29n27
  | 28 => T29n28
  | 29 => T29n29
  | _ => .skip
theorem t29n0 : T29 0 = T29n0 := rfl
theorem t29n1 : T29 1 = T29n1 := rfl
theorem t29n2 : T29 2 = T29n2 := rfl
theorem t29n3 : T29 3 = T29n3 := rfl
theorem t29n4 : T29 4 = T29n4 := rfl
theorem t29n5 : T29 5 = T29n5 := rfl
theorem t29n6 : T29 6 = T29n6 := rfl
theorem t29n7 : T29 7 = T29n7 := rfl
theorem t29n8 : T29 8 = T29n8 := rfl
theorem t29n9 : T29 9 = T29n9 := rfl
theorem t29n10 : T29 10 = T29n10 := rfl
theorem t29n11 : T29 11 = T29n11 := rfl
theorem t29n12 : T29 12 = T29n12 := rfl
theorem t29n13 : T29 13 = T29n13 := rfl
theorem t29n14 : T29 14 = T29n14 := rfl
theorem t29n15 : T29 15 = T29n15 := rfl
theorem t29n16 : T29 16 = T29n16 := rfl
theorem t29n17 : T29 17 = T29n17 := rfl
theorem t29n18 : T29 18 = T29n18 := rfl
theorem t29n19 : T29 19 = T29n19 := rfl
theorem t29n20 : T29 20 = T29n20 := rfl
theorem t29n21 : T29 21 = T29n21 := rfl
theorem t29n22 : T29 22 = T29n22 := rfl
theorem t29n23 : T29 23 = T29n23 := rfl
theorem t29n24 : T29 24 = T29n24 := rfl
theorem t29n25 : T29 25 = T29n25 := rfl
theorem t29n26 : T29 26 = T29n26 := rfl
theorem t29n27 : T29 27 = T29n27 := rfl
theorem t29n28 : T29 28 = T29n28 := rfl
theorem t29n29 : T29 29 = T29n29 := rfl
def X29 : XC := .seq (.ops [XS.mk (some 2) none (XI.k (XK.alloc 61 [Value.string (ByteArray.mk (Array.mk [])), Value.bool false, Value.bool false, Value.bool false, Value.bool false])), XS.mk (some 3) none (XI.k (XK.mov (Operand.const (Value.bool false))))]) (.ref 29)
abbrev K29 : List Nat := [0, 2, 3, 4, 5, 6, 7, 10, 13, 16, 31, 44, 47, 50]
theorem n29 : Tryd.f29.ntmps = 54 := by kernel_rfl
theorem r29 : rvOf Tryd.prog Tryd.f29.results.toList = some [RV.cell 2 5 true, RV.tmp 3] := by kernel_rfl
theorem x29 : cmpF Tryd.prog Tryd.f29 = some (expand T29 31 X29) := by kernel_rfl
def T38n0 : XC := .seq (.ops [XS.mk (some 16) none (XI.k (XK.mov (Operand.tmp 3))), XS.mk (some 17) none (XI.k (XK.mov (Operand.tmp 4))), XS.mk (some 18) none (XI.k (XK.buildS 9 1 1 [Value.string (ByteArray.mk (Array.mk []))] [(0, Operand.tmp 17)])), XS.mk (some 19) none (XI.k (XK.app 9 1 16 (Operand.tmp 16) (Operand.tmp 18))), XS.mk (some 3) none (XI.k (XK.mov (Operand.tmp 19)))]) (.ops [XS.mk (some 4) none (XI.k (XK.mov (Operand.const (Value.string (ByteArray.mk (Array.mk []))))))])
def T38n1 : XC := .ops [XS.mk (some 20) none (XI.k (XK.mov (Operand.tmp 4))), XS.mk (some 21) none (XI.k (XK.mov (Operand.tmp 0))), XS.mk (some 22) none (XI.k (XK.mov (Operand.tmp 5))), XS.mk (some 23) none (XI.k (XK.mov (Operand.tmp 5))), XS.mk (some 24) none (XI.k (XK.arith BinOp.add IntKind.i64 (Operand.tmp 23) (Operand.const (Value.int IntKind.i64 1)))), XS.mk (some 25) none (XI.k (XK.subT (Operand.tmp 21) (some (Operand.tmp 22)) (some (Operand.tmp 24)))), XS.mk (some 26) none (XI.k (XK.cat (Operand.tmp 20) (Operand.tmp 25))), XS.mk (some 4) none (XI.k (XK.mov (Operand.tmp 26)))]
def T38n2 : XC := .ops [XS.mk (some 10) none (XI.k (XK.mov (Operand.tmp 5))), XS.mk (some 11) none (XI.k (XK.arith BinOp.add IntKind.i64 (Operand.tmp 10) (Operand.const (Value.int IntKind.i64 1)))), XS.mk (some 5) none (XI.k (XK.mov (Operand.tmp 11)))]
def T38n3 : XC := .seq (.blk 1 (.seq (.ops [XS.mk (some 12) none (XI.k (XK.mov (Operand.tmp 0))), XS.mk (some 13) none (XI.k (XK.mov (Operand.tmp 5))), XS.mk (some 14) none (XI.k (XK.ixT (Operand.tmp 12) (Operand.tmp 13))), XS.mk (some 15) none (XI.k (XK.cmp BinOp.eql IntKind.u8 (Operand.tmp 14) (Operand.const (Value.int IntKind.u8 32))))]) (.cond (Operand.tmp 15) (.ref 0) (.ref 1)))) (.ref 2)
def T38n4 : XC := .seq (.seq (.ops [XS.mk (some 6) none (XI.k (XK.mov (Operand.tmp 5))), XS.mk (some 7) none (XI.k (XK.mov (Operand.tmp 0))), XS.mk (some 8) none (XI.k (XK.lenT (Operand.tmp 7))), XS.mk (some 9) none (XI.k (XK.cmp BinOp.lss IntKind.i64 (Operand.tmp 6) (Operand.tmp 8)))]) (.cond (Operand.tmp 9) (.skip) (.exit 0))) (.ref 3)
def T38n5 : XC := .seq (.ops [XS.mk (some 27) none (XI.k (XK.mov (Operand.tmp 3))), XS.mk (some 28) none (XI.k (XK.mov (Operand.tmp 4))), XS.mk (some 29) none (XI.k (XK.buildS 9 1 1 [Value.string (ByteArray.mk (Array.mk []))] [(0, Operand.tmp 28)])), XS.mk (some 30) none (XI.k (XK.app 9 1 16 (Operand.tmp 27) (Operand.tmp 29))), XS.mk (some 2) none (XI.k (XK.mov (Operand.tmp 30)))]) (.ret)
def T38n6 : XC := .seq (.seq (.ops [XS.mk (some 5) none (XI.k (XK.mov (Operand.const (Value.int IntKind.i64 0))))]) (.blk 0 (.loop (.ref 4)))) (.ref 5)
def T38n7 : XC := .seq (.ops [XS.mk (some 4) none (XI.k (XK.mov (Operand.const (Value.string (ByteArray.mk (Array.mk []))))))]) (.ref 6)
def T38n8 : XC := .seq (.ops [XS.mk (some 3) none (XI.k (XK.mov (Operand.const (Value.slice none 0 0))))]) (.ref 7)
def T38 : Nat → XC
  | 0 => T38n0
  | 1 => T38n1
  | 2 => T38n2
  | 3 => T38n3
  | 4 => T38n4
  | 5 => T38n5
  | 6 => T38n6
  | 7 => T38n7
  | 8 => T38n8
  | _ => .skip
theorem t38n0 : T38 0 = T38n0 := rfl
theorem t38n1 : T38 1 = T38n1 := rfl
theorem t38n2 : T38 2 = T38n2 := rfl
theorem t38n3 : T38 3 = T38n3 := rfl
theorem t38n4 : T38 4 = T38n4 := rfl
theorem t38n5 : T38 5 = T38n5 := rfl
theorem t38n6 : T38 6 = T38n6 := rfl
theorem t38n7 : T38 7 = T38n7 := rfl
theorem t38n8 : T38 8 = T38n8 := rfl
def X38 : XC := .seq (.ops [XS.mk (some 2) none (XI.k (XK.mov (Operand.const (Value.slice none 0 0))))]) (.ref 8)
abbrev K38 : List Nat := [0, 2, 3, 4, 5, 9, 15]
theorem n38 : Tryd.f38.ntmps = 31 := by kernel_rfl
theorem r38 : resT Tryd.f38.results.toList = some [2] := by kernel_rfl
theorem x38 : cmpF Tryd.prog Tryd.f38 = some (expand T38 10 X38) := by kernel_rfl
def T39n0 : XC := .cond (Operand.tmp 17) (.ops [XS.mk (some 6) none (XI.k (XK.mov (Operand.const (Value.int IntKind.i64 1))))]) (.skip)
def T39n1 : XC := .seq (.ops [XS.mk (some 2) none (XI.k (XK.mov (Operand.const (Value.int IntKind.i64 0)))), XS.mk (some 3) none (XI.k (XK.mov (Operand.const (Value.bool false))))]) (.ret)
def T39n2 : XC := .ops [XS.mk (some 48) none (XI.k (XK.mov (Operand.tmp 4))), XS.mk (some 49) none (XI.k (XK.arith BinOp.mul IntKind.i64 (Operand.const (Value.int IntKind.i64 10)) (Operand.tmp 48))), XS.mk (some 50) none (XI.k (XK.mov (Operand.tmp 8))), XS.mk (some 51) none (XI.k (XK.arith BinOp.sub IntKind.i64 (Operand.tmp 49) (Operand.tmp 50))), XS.mk (some 4) none (XI.k (XK.mov (Operand.tmp 51)))]
def T39n3 : XC := .seq (.seq (.ops [XS.mk (some 30) none (XI.k (XK.mov (Operand.tmp 8))), XS.mk (some 31) none (XI.k (XK.cmp BinOp.lss IntKind.i64 (Operand.tmp 30) (Operand.const (Value.int IntKind.i64 0)))), XS.mk (some 32) none (XI.k (XK.mov (Operand.tmp 31))), XS.mk (some 33) (some (32, false)) (XI.k (XK.mov (Operand.tmp 8))), XS.mk (some 34) (some (32, false)) (XI.k (XK.cmp BinOp.gtr IntKind.i64 (Operand.tmp 33) (Operand.const (Value.int IntKind.i64 9)))), XS.mk (some 35) none (XI.k (XK.pick (Operand.tmp 32) (Operand.const (Value.bool true)) (Operand.tmp 34))), XS.mk (some 36) none (XI.k (XK.mov (Operand.tmp 35))), XS.mk (some 37) (some (36, false)) (XI.k (XK.mov (Operand.tmp 4))), XS.mk (some 38) (some (36, false)) (XI.k (XK.cmp BinOp.lss IntKind.i64 (Operand.tmp 37) (Operand.const (Value.int IntKind.i64 (-922337203685477580))))), XS.mk (some 39) none (XI.k (XK.pick (Operand.tmp 36) (Operand.const (Value.bool true)) (Operand.tmp 38))), XS.mk (some 40) none (XI.k (XK.mov (Operand.tmp 39))), XS.mk (some 41) (some (40, false)) (XI.k (XK.mov (Operand.tmp 4))), XS.mk (some 42) (some (40, false)) (XI.k (XK.cmp BinOp.eql IntKind.i64 (Operand.tmp 41) (Operand.const (Value.int IntKind.i64 (-922337203685477580))))), XS.mk (some 43) (some (40, false)) (XI.k (XK.mov (Operand.tmp 42))), XS.mk (some 44) (some (43, true)) (XI.k (XK.mov (Operand.tmp 8))), XS.mk (some 45) (some (43, true)) (XI.k (XK.cmp BinOp.gtr IntKind.i64 (Operand.tmp 44) (Operand.const (Value.int IntKind.i64 8)))), XS.mk (some 46) (some (40, false)) (XI.k (XK.pick (Operand.tmp 43) (Operand.tmp 45) (Operand.const (Value.bool false)))), XS.mk (some 47) none (XI.k (XK.pick (Operand.tmp 40) (Operand.const (Value.bool true)) (Operand.tmp 46)))]) (.cond (Operand.tmp 47) (.ref 1) (.skip))) (.ref 2)
def T39n4 : XC := .ops [XS.mk (some 23) none (XI.k (XK.mov (Operand.tmp 7))), XS.mk (some 24) none (XI.k (XK.arith BinOp.add IntKind.i64 (Operand.tmp 23) (Operand.const (Value.int IntKind.i64 1)))), XS.mk (some 7) none (XI.k (XK.mov (Operand.tmp 24)))]
def T39n5 : XC := .seq (.blk 1 (.seq (.ops [XS.mk (some 25) none (XI.k (XK.mov (Operand.tmp 0))), XS.mk (some 26) none (XI.k (XK.mov (Operand.tmp 7))), XS.mk (some 27) none (XI.k (XK.ixT (Operand.tmp 25) (Operand.tmp 26))), XS.mk (some 28) none (XI.k (XK.conv IntKind.i64 (Operand.tmp 27))), XS.mk (some 29) none (XI.k (XK.arith BinOp.sub IntKind.i64 (Operand.tmp 28) (Operand.const (Value.int IntKind.i64 48)))), XS.mk (some 8) none (XI.k (XK.mov (Operand.tmp 29)))]) (.ref 3))) (.ref 4)
def T39n6 : XC := .seq (.seq (.ops [XS.mk (some 19) none (XI.k (XK.mov (Operand.tmp 7))), XS.mk (some 20) none (XI.k (XK.mov (Operand.tmp 0))), XS.mk (some 21) none (XI.k (XK.lenT (Operand.tmp 20))), XS.mk (some 22) none (XI.k (XK.cmp BinOp.lss IntKind.i64 (Operand.tmp 19) (Operand.tmp 21)))]) (.cond (Operand.tmp 22) (.skip) (.exit 0))) (.ref 5)
def T39n7 : XC := .ops [XS.mk (some 54) none (XI.k (XK.mov (Operand.tmp 4))), XS.mk (some 55) none (XI.k (XK.neg IntKind.i64 (Operand.tmp 54))), XS.mk (some 4) none (XI.k (XK.mov (Operand.tmp 55)))]
def T39n8 : XC := .seq (.ops [XS.mk (some 56) none (XI.k (XK.mov (Operand.tmp 4))), XS.mk (some 57) none (XI.k (XK.mov (Operand.tmp 4))), XS.mk (some 58) none (XI.call 42 [Operand.tmp 57]), XS.mk (some 59) none (XI.k (XK.mov (Operand.tmp 0))), XS.mk (some 60) none (XI.k (XK.eqs BinOp.eql (Operand.tmp 58) (Operand.tmp 59))), XS.mk (some 2) none (XI.k (XK.mov (Operand.tmp 56))), XS.mk (some 3) none (XI.k (XK.mov (Operand.tmp 60)))]) (.ret)
def T39n9 : XC := .seq (.seq (.ops [XS.mk (some 52) none (XI.k (XK.mov (Operand.tmp 5))), XS.mk (some 53) none (XI.k (XK.not (Operand.tmp 52)))]) (.cond (Operand.tmp 53) (.ref 7) (.skip))) (.ref 8)
def T39n10 : XC := .seq (.seq (.ops [XS.mk (some 18) none (XI.k (XK.mov (Operand.tmp 6))), XS.mk (some 7) none (XI.k (XK.mov (Operand.tmp 18)))]) (.blk 0 (.loop (.ref 6)))) (.ref 9)
def T39n11 : XC := .seq (.seq (.ops [XS.mk (some 17) none (XI.k (XK.mov (Operand.tmp 5)))]) (.ref 0)) (.ref 10)
def T39n12 : XC := .seq (.ops [XS.mk (some 6) none (XI.k (XK.mov (Operand.const (Value.int IntKind.i64 0))))]) (.ref 11)
def T39n13 : XC := .seq (.ops [XS.mk (some 9) none (XI.k (XK.mov (Operand.tmp 0))), XS.mk (some 10) none (XI.k (XK.lenT (Operand.tmp 9))), XS.mk (some 11) none (XI.k (XK.cmp BinOp.gtr IntKind.i64 (Operand.tmp 10) (Operand.const (Value.int IntKind.i64 0)))), XS.mk (some 12) none (XI.k (XK.mov (Operand.tmp 11))), XS.mk (some 13) (some (12, true)) (XI.k (XK.mov (Operand.tmp 0))), XS.mk (some 14) (some (12, true)) (XI.k (XK.ixT (Operand.tmp 13) (Operand.const (Value.int IntKind.i64 0)))), XS.mk (some 15) (some (12, true)) (XI.k (XK.cmp BinOp.eql IntKind.u8 (Operand.tmp 14) (Operand.const (Value.int IntKind.u8 45)))), XS.mk (some 16) none (XI.k (XK.pick (Operand.tmp 12) (Operand.tmp 15) (Operand.const (Value.bool false)))), XS.mk (some 5) none (XI.k (XK.mov (Operand.tmp 16)))]) (.ref 12)
def T39n14 : XC := .seq (.ops [XS.mk (some 4) none (XI.k (XK.mov (Operand.const (Value.int IntKind.i64 0))))]) (.ref 13)
def T39 : Nat → XC
  | 0 => T39n0
  | 1 => T39n1
  | 2 => T39n2
  | 3 => T39n3
  | 4 => T39n4
  | 5 => T39n5
  | 6 => T39n6
  | 7 => T39n7
  | 8 => T39n8
  | 9 => T39n9
  | 10 => T39n10
  | 11 => T39n11
  | 12 => T39n12
  | 13 => T39n13
  | 14 => T39n14
  | _ => .skip
theorem t39n0 : T39 0 = T39n0 := rfl
theorem t39n1 : T39 1 = T39n1 := rfl
theorem t39n2 : T39 2 = T39n2 := rfl
theorem t39n3 : T39 3 = T39n3 := rfl
theorem t39n4 : T39 4 = T39n4 := rfl
theorem t39n5 : T39 5 = T39n5 := rfl
theorem t39n6 : T39 6 = T39n6 := rfl
theorem t39n7 : T39 7 = T39n7 := rfl
theorem t39n8 : T39 8 = T39n8 := rfl
theorem t39n9 : T39 9 = T39n9 := rfl
theorem t39n10 : T39 10 = T39n10 := rfl
theorem t39n11 : T39 11 = T39n11 := rfl
theorem t39n12 : T39 12 = T39n12 := rfl
theorem t39n13 : T39 13 = T39n13 := rfl
theorem t39n14 : T39 14 = T39n14 := rfl
def X39 : XC := .seq (.ops [XS.mk (some 2) none (XI.k (XK.mov (Operand.const (Value.int IntKind.i64 0)))), XS.mk (some 3) none (XI.k (XK.mov (Operand.const (Value.bool false))))]) (.ref 14)
abbrev K39 : List Nat := [0, 2, 3, 4, 5, 6, 7, 8, 17, 22, 47, 53]
theorem n39 : Tryd.f39.ntmps = 61 := by kernel_rfl
theorem r39 : resT Tryd.f39.results.toList = some [2, 3] := by kernel_rfl
theorem x39 : cmpF Tryd.prog Tryd.f39 = some (expand T39 16 X39) := by kernel_rfl
end Go.Proofs.YtpoopljpodkdcaaDoor
