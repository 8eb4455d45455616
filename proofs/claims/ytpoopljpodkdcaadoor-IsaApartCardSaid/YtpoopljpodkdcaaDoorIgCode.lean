/- Printed by program: the small code of functions, and that it is theirs. -/
import Derived.Test.YtpoopljpodkdcaaDoorSxStill
import Derived.Test.YtpoopljpodkdcaaDoorProg
import Derived.KernelRfl
set_option linter.unusedSimpArgs false
set_option linter.unusedVariables false
set_option linter.unnecessarySimpa false
namespace Go.Proofs.YtpoopljpodkdcaaDoor
open Go Go.Sx
set_option maxRecDepth 100000
def T6n0 : XC := .seq (.ops [XS.mk (some 6) none (XI.k (XK.mov (Operand.const (Value.bool false))))]) (.ret)
def T6n1 : XC := .ops [XS.mk (some 66) none (XI.k (XK.mov (Operand.tmp 14))), XS.mk (some 67) none (XI.k (XK.idxA 3 1 (Operand.tmp 13) (Operand.tmp 66))), XS.mk (some 68) none (XI.k (XK.load [CK.int IntKind.i64] false (Operand.tmp 67))), XS.mk (some 69) none (XI.k (XK.mov (Operand.tmp 14))), XS.mk (some 70) none (XI.k (XK.idxA 3 1 (Operand.tmp 13) (Operand.tmp 69))), XS.mk (some 71) none (XI.k (XK.load [CK.int IntKind.i64] false (Operand.tmp 70))), XS.mk (some 72) none (XI.k (XK.idxA 2 8 (Operand.tmp 4) (Operand.const (Value.int IntKind.i64 0)))), XS.mk (some 73) none (XI.k (XK.idxA 8 1 (Operand.tmp 72) (Operand.tmp 71))), XS.mk (some 74) none (XI.k (XK.load [CK.int IntKind.u64] false (Operand.tmp 73))), XS.mk (some 75) none (XI.k (XK.idxA 8 1 (Operand.tmp 12) (Operand.tmp 68))), XS.mk none none (XI.k (XK.store 1 (Operand.tmp 75) (Operand.tmp 74)))]
def T6n2 : XC := .ops [XS.mk (some 49) none (XI.k (XK.mov (Operand.tmp 14))), XS.mk (some 50) none (XI.k (XK.arith BinOp.add IntKind.i64 (Operand.tmp 49) (Operand.const (Value.int IntKind.i64 1)))), XS.mk (some 14) none (XI.k (XK.mov (Operand.tmp 50)))]
def T6n3 : XC := .seq (.blk 1 (.seq (.ops [XS.mk (some 51) none (XI.k (XK.mov (Operand.tmp 14))), XS.mk (some 52) none (XI.k (XK.idxA 3 1 (Operand.tmp 11) (Operand.tmp 51))), XS.mk (some 53) none (XI.k (XK.load [CK.bool] false (Operand.tmp 52))), XS.mk (some 54) none (XI.k (XK.mov (Operand.tmp 53))), XS.mk (some 55) (some (54, true)) (XI.k (XK.mov (Operand.tmp 14))), XS.mk (some 56) (some (54, true)) (XI.k (XK.idxA 3 1 (Operand.tmp 13) (Operand.tmp 55))), XS.mk (some 57) (some (54, true)) (XI.k (XK.load [CK.int IntKind.i64] false (Operand.tmp 56))), XS.mk (some 58) (some (54, true)) (XI.k (XK.cmp BinOp.geq IntKind.i64 (Operand.tmp 57) (Operand.const (Value.int IntKind.i64 0)))), XS.mk (some 59) none (XI.k (XK.pick (Operand.tmp 54) (Operand.tmp 58) (Operand.const (Value.bool false)))), XS.mk (some 60) none (XI.k (XK.mov (Operand.tmp 59))), XS.mk (some 61) (some (60, true)) (XI.k (XK.mov (Operand.tmp 14))), XS.mk (some 62) (some (60, true)) (XI.k (XK.idxA 3 1 (Operand.tmp 13) (Operand.tmp 61))), XS.mk (some 63) (some (60, true)) (XI.k (XK.load [CK.int IntKind.i64] false (Operand.tmp 62))), XS.mk (some 64) (some (60, true)) (XI.k (XK.cmp BinOp.lss IntKind.i64 (Operand.tmp 63) (Operand.const (Value.int IntKind.i64 8)))), XS.mk (some 65) none (XI.k (XK.pick (Operand.tmp 60) (Operand.tmp 64) (Operand.const (Value.bool false))))]) (.cond (Operand.tmp 65) (.ref 1) (.skip)))) (.ref 2)
def T6n4 : XC := .seq (.seq (.ops [XS.mk (some 47) none (XI.k (XK.mov (Operand.tmp 14))), XS.mk (some 48) none (XI.k (XK.cmp BinOp.lss IntKind.i64 (Operand.tmp 47) (Operand.const (Value.int IntKind.i64 3))))]) (.cond (Operand.tmp 48) (.skip) (.exit 0))) (.ref 3)
def T6n5 : XC := .cond (Operand.tmp 83) (.ops [XS.mk (some 84) none (XI.k (XK.fld 1 (Operand.tmp 16))), XS.mk none none (XI.k (XK.store 1 (Operand.tmp 84) (Operand.const (Value.int IntKind.i64 77))))]) (.skip)
def T6n6 : XC := .cond (Operand.tmp 87) (.ops [XS.mk (some 88) none (XI.k (XK.fld 2 (Operand.tmp 16))), XS.mk none none (XI.k (XK.store 1 (Operand.tmp 88) (Operand.const (Value.int IntKind.i64 (-3)))))]) (.skip)
def T6n7 : XC := .cond (Operand.tmp 91) (.ops [XS.mk (some 92) none (XI.k (XK.fld 3 (Operand.tmp 16))), XS.mk none none (XI.k (XK.store 1 (Operand.tmp 92) (Operand.const (Value.int IntKind.i64 8))))]) (.skip)
def T6n8 : XC := .ops [XS.mk (some 126) none (XI.k (XK.fld 1 (Operand.tmp 10))), XS.mk (some 127) none (XI.k (XK.load [CK.int IntKind.i64] false (Operand.tmp 126))), XS.mk (some 128) none (XI.k (XK.fld 1 (Operand.tmp 18))), XS.mk (some 129) none (XI.k (XK.load [CK.int IntKind.i64] false (Operand.tmp 128))), XS.mk (some 130) none (XI.k (XK.mov (Operand.tmp 9))), XS.mk (some 131) none (XI.k (XK.arith BinOp.add IntKind.i64 (Operand.tmp 130) (Operand.const (Value.int IntKind.i64 1)))), XS.mk (some 132) none (XI.k (XK.arith BinOp.sub IntKind.i64 (Operand.tmp 129) (Operand.tmp 131))), XS.mk (some 133) none (XI.k (XK.arith BinOp.add IntKind.i64 (Operand.tmp 127) (Operand.tmp 132))), XS.mk (some 134) none (XI.k (XK.fld 1 (Operand.tmp 18))), XS.mk none none (XI.k (XK.store 1 (Operand.tmp 134) (Operand.tmp 133)))]
def T6n9 : XC := .seq (.ops [XS.mk (some 135) none (XI.k (XK.mov (Operand.tmp 7))), XS.mk (some 136) none (XI.k (XK.mov (Operand.tmp 135))), XS.mk (some 137) (some (136, true)) (XI.k (XK.load [CK.int IntKind.i64, CK.int IntKind.i64, CK.int IntKind.i64, CK.int IntKind.u64, CK.int IntKind.u64] true (Operand.tmp 10))), XS.mk (some 138) (some (136, true)) (XI.k (XK.load [CK.int IntKind.i64, CK.int IntKind.i64, CK.int IntKind.i64, CK.int IntKind.u64, CK.int IntKind.u64] true (Operand.tmp 15))), XS.mk (some 139) (some (136, true)) (XI.k (XK.eqa false [CK.int IntKind.i64, CK.int IntKind.i64, CK.int IntKind.i64, CK.int IntKind.u64, CK.int IntKind.u64] (Operand.tmp 137) (Operand.tmp 138))), XS.mk (some 140) none (XI.k (XK.pick (Operand.tmp 136) (Operand.tmp 139) (Operand.const (Value.bool false)))), XS.mk (some 141) none (XI.k (XK.mov (Operand.tmp 140))), XS.mk (some 142) (some (141, true)) (XI.k (XK.load [CK.int IntKind.i64, CK.int IntKind.i64, CK.int IntKind.i64, CK.int IntKind.u64, CK.int IntKind.u64] true (Operand.tmp 10))), XS.mk (some 143) (some (141, true)) (XI.k (XK.load [CK.int IntKind.i64, CK.int IntKind.i64, CK.int IntKind.i64, CK.int IntKind.u64, CK.int IntKind.u64] true (Operand.tmp 17))), XS.mk (some 144) (some (141, true)) (XI.k (XK.eqa false [CK.int IntKind.i64, CK.int IntKind.i64, CK.int IntKind.i64, CK.int IntKind.u64, CK.int IntKind.u64] (Operand.tmp 142) (Operand.tmp 143))), XS.mk (some 145) none (XI.k (XK.pick (Operand.tmp 141) (Operand.tmp 144) (Operand.const (Value.bool false)))), XS.mk (some 146) none (XI.k (XK.mov (Operand.tmp 145))), XS.mk (some 147) (some (146, true)) (XI.k (XK.load [CK.int IntKind.i64, CK.int IntKind.i64, CK.int IntKind.i64, CK.int IntKind.u64, CK.int IntKind.u64] true (Operand.tmp 10))), XS.mk (some 148) (some (146, true)) (XI.k (XK.load [CK.int IntKind.i64, CK.int IntKind.i64, CK.int IntKind.i64, CK.int IntKind.u64, CK.int IntKind.u64] true (Operand.tmp 18))), XS.mk (some 149) (some (146, true)) (XI.k (XK.eqa false [CK.int IntKind.i64, CK.int IntKind.i64, CK.int IntKind.i64, CK.int IntKind.u64, CK.int IntKind.u64] (Operand.tmp 147) (Operand.tmp 148))), XS.mk (some 150) (some (146, true)) (XI.k (XK.mov (Operand.tmp 149))), XS.mk (some 151) (some (150, false)) (XI.k (XK.fld 0 (Operand.tmp 10))), XS.mk (some 152) (some (150, false)) (XI.k (XK.load [CK.int IntKind.i64] false (Operand.tmp 151))), XS.mk (some 153) (some (150, false)) (XI.k (XK.cmp BinOp.eql IntKind.i64 (Operand.tmp 152) (Operand.const (Value.int IntKind.i64 2)))), XS.mk (some 154) (some (150, false)) (XI.k (XK.mov (Operand.tmp 153))), XS.mk (some 155) (some (154, true)) (XI.k (XK.fld 0 (Operand.tmp 18))), XS.mk (some 156) (some (154, true)) (XI.k (XK.load [CK.int IntKind.i64] false (Operand.tmp 155))), XS.mk (some 157) (some (154, true)) (XI.k (XK.cmp BinOp.eql IntKind.i64 (Operand.tmp 156) (Operand.const (Value.int IntKind.i64 2)))), XS.mk (some 158) (some (150, false)) (XI.k (XK.pick (Operand.tmp 154) (Operand.tmp 157) (Operand.const (Value.bool false)))), XS.mk (some 159) (some (150, false)) (XI.k (XK.mov (Operand.tmp 158))), XS.mk (some 160) (some (159, true)) (XI.k (XK.fld 4 (Operand.tmp 3))), XS.mk (some 162) (some (159, true)) (XI.k (XK.mov (Operand.tmp 8))), XS.mk (some 163) (some (159, true)) (XI.k (XK.arith BinOp.add IntKind.i64 (Operand.tmp 162) (Operand.const (Value.int IntKind.i64 1)))), XS.mk (some 161) (some (159, true)) (XI.k (XK.load [CK.int IntKind.i64] false (Operand.tmp 160))), XS.mk (some 164) (some (159, true)) (XI.k (XK.cmp BinOp.eql IntKind.i64 (Operand.tmp 161) (Operand.tmp 163))), XS.mk (some 165) (some (150, false)) (XI.k (XK.pick (Operand.tmp 159) (Operand.tmp 164) (Operand.const (Value.bool false)))), XS.mk (some 166) (some (146, true)) (XI.k (XK.pick (Operand.tmp 150) (Operand.const (Value.bool true)) (Operand.tmp 165))), XS.mk (some 167) none (XI.k (XK.pick (Operand.tmp 146) (Operand.tmp 166) (Operand.const (Value.bool false)))), XS.mk (some 168) none (XI.k (XK.mov (Operand.tmp 167))), XS.mk (some 169) (some (168, true)) (XI.k (XK.load [CK.int IntKind.i64, CK.int IntKind.i64, CK.int IntKind.i64, CK.int IntKind.i64, CK.int IntKind.i64] true (Operand.tmp 3))), XS.mk (some 171) (some (168, true)) (XI.k (XK.load [CK.int IntKind.i64, CK.int IntKind.i64, CK.int IntKind.i64, CK.int IntKind.i64, CK.int IntKind.i64] true (Operand.tmp 16))), XS.mk (some 170) (some (168, true)) (XI.call 12 [Operand.tmp 169]), XS.mk none (some (168, true)) (XI.still 171 (XK.load [CK.int IntKind.i64, CK.int IntKind.i64, CK.int IntKind.i64, CK.int IntKind.i64, CK.int IntKind.i64] true (Operand.tmp 16))), XS.mk (some 172) (some (168, true)) (XI.call 12 [Operand.tmp 171]), XS.mk (some 173) (some (168, true)) (XI.k (XK.eqb false (Operand.tmp 170) (Operand.tmp 172))), XS.mk (some 174) none (XI.k (XK.pick (Operand.tmp 168) (Operand.tmp 173) (Operand.const (Value.bool false)))), XS.mk (some 6) none (XI.k (XK.mov (Operand.tmp 174)))]) (.ret)
def T6n10 : XC := .seq (.seq (.ops [XS.mk (some 103) none (XI.k (XK.fld 1 (Operand.tmp 10))), XS.mk (some 104) none (XI.k (XK.load [CK.int IntKind.i64] false (Operand.tmp 103))), XS.mk (some 105) none (XI.k (XK.mov (Operand.tmp 8))), XS.mk (some 106) none (XI.k (XK.arith BinOp.add IntKind.i64 (Operand.tmp 105) (Operand.const (Value.int IntKind.i64 1)))), XS.mk (some 107) none (XI.k (XK.cmp BinOp.eql IntKind.i64 (Operand.tmp 104) (Operand.tmp 106))), XS.mk (some 108) none (XI.k (XK.mov (Operand.tmp 107))), XS.mk (some 109) (some (108, true)) (XI.k (XK.fld 0 (Operand.tmp 10))), XS.mk (some 110) (some (108, true)) (XI.k (XK.load [CK.int IntKind.i64] false (Operand.tmp 109))), XS.mk (some 111) (some (108, true)) (XI.k (XK.cmp BinOp.neq IntKind.i64 (Operand.tmp 110) (Operand.const (Value.int IntKind.i64 0)))), XS.mk (some 112) none (XI.k (XK.pick (Operand.tmp 108) (Operand.tmp 111) (Operand.const (Value.bool false)))), XS.mk (some 113) none (XI.k (XK.mov (Operand.tmp 112))), XS.mk (some 114) (some (113, true)) (XI.k (XK.fld 0 (Operand.tmp 10))), XS.mk (some 115) (some (113, true)) (XI.k (XK.load [CK.int IntKind.i64] false (Operand.tmp 114))), XS.mk (some 116) (some (113, true)) (XI.k (XK.cmp BinOp.eql IntKind.i64 (Operand.tmp 115) (Operand.const (Value.int IntKind.i64 2)))), XS.mk (some 117) (some (113, true)) (XI.k (XK.mov (Operand.tmp 116))), XS.mk (some 118) (some (117, true)) (XI.k (XK.fld 4 (Operand.tmp 3))), XS.mk (some 119) (some (117, true)) (XI.k (XK.load [CK.int IntKind.i64] false (Operand.tmp 118))), XS.mk (some 120) (some (117, true)) (XI.k (XK.mov (Operand.tmp 8))), XS.mk (some 121) (some (117, true)) (XI.k (XK.arith BinOp.add IntKind.i64 (Operand.tmp 120) (Operand.const (Value.int IntKind.i64 1)))), XS.mk (some 122) (some (117, true)) (XI.k (XK.cmp BinOp.eql IntKind.i64 (Operand.tmp 119) (Operand.tmp 121))), XS.mk (some 123) (some (113, true)) (XI.k (XK.pick (Operand.tmp 117) (Operand.tmp 122) (Operand.const (Value.bool false)))), XS.mk (some 124) (some (113, true)) (XI.k (XK.not (Operand.tmp 123))), XS.mk (some 125) none (XI.k (XK.pick (Operand.tmp 113) (Operand.tmp 124) (Operand.const (Value.bool false))))]) (.cond (Operand.tmp 125) (.ref 8) (.skip))) (.ref 9)
def T6n11 : XC := .seq (.ops [XS.mk (some 98) none (XI.k (XK.load [CK.int IntKind.i64, CK.int IntKind.i64, CK.int IntKind.i64, CK.int IntKind.i64, CK.int IntKind.i64] true (Operand.tmp 3))), XS.mk (some 99) none (XI.k (XK.idxA 2 8 (Operand.tmp 4) (Operand.const (Value.int IntKind.i64 0)))), XS.mk (some 100) none (XI.k (XK.load [CK.int IntKind.u64, CK.int IntKind.u64, CK.int IntKind.u64, CK.int IntKind.u64, CK.int IntKind.u64, CK.int IntKind.u64, CK.int IntKind.u64, CK.int IntKind.u64] true (Operand.tmp 99))), XS.mk (some 101) none (XI.k (XK.mov (Operand.tmp 9))), XS.mk (some 102) none (XI.call 10 [Operand.tmp 98, Operand.tmp 100, Operand.tmp 101]), XS.mk (some 18) none (XI.k (XK.alloc 27 [Value.int IntKind.i64 0, Value.int IntKind.i64 0, Value.int IntKind.i64 0, Value.int IntKind.u64 0, Value.int IntKind.u64 0])), XS.mk none none (XI.k (XK.store 5 (Operand.tmp 18) (Operand.tmp 102)))]) (.ref 10)
def T6n12 : XC := .seq (.ops [XS.mk (some 93) none (XI.k (XK.load [CK.int IntKind.i64, CK.int IntKind.i64, CK.int IntKind.i64, CK.int IntKind.i64, CK.int IntKind.i64] true (Operand.tmp 16))), XS.mk (some 94) none (XI.k (XK.idxA 2 8 (Operand.tmp 4) (Operand.const (Value.int IntKind.i64 0)))), XS.mk (some 95) none (XI.k (XK.load [CK.int IntKind.u64, CK.int IntKind.u64, CK.int IntKind.u64, CK.int IntKind.u64, CK.int IntKind.u64, CK.int IntKind.u64, CK.int IntKind.u64, CK.int IntKind.u64] true (Operand.tmp 94))), XS.mk (some 96) none (XI.k (XK.mov (Operand.tmp 8))), XS.mk (some 97) none (XI.call 10 [Operand.tmp 93, Operand.tmp 95, Operand.tmp 96]), XS.mk (some 17) none (XI.k (XK.alloc 27 [Value.int IntKind.i64 0, Value.int IntKind.i64 0, Value.int IntKind.i64 0, Value.int IntKind.u64 0, Value.int IntKind.u64 0])), XS.mk none none (XI.k (XK.store 5 (Operand.tmp 17) (Operand.tmp 97)))]) (.ref 11)
def T6n13 : XC := .seq (.seq (.ops [XS.mk (some 89) none (XI.k (XK.idxA 3 1 (Operand.tmp 11) (Operand.const (Value.int IntKind.i64 2)))), XS.mk (some 90) none (XI.k (XK.load [CK.bool] false (Operand.tmp 89))), XS.mk (some 91) none (XI.k (XK.not (Operand.tmp 90)))]) (.ref 7)) (.ref 12)
def T6n14 : XC := .seq (.seq (.ops [XS.mk (some 85) none (XI.k (XK.idxA 3 1 (Operand.tmp 11) (Operand.const (Value.int IntKind.i64 1)))), XS.mk (some 86) none (XI.k (XK.load [CK.bool] false (Operand.tmp 85))), XS.mk (some 87) none (XI.k (XK.not (Operand.tmp 86)))]) (.ref 6)) (.ref 13)
def T6n15 : XC := .seq (.seq (.ops [XS.mk (some 81) none (XI.k (XK.idxA 3 1 (Operand.tmp 11) (Operand.const (Value.int IntKind.i64 0)))), XS.mk (some 82) none (XI.k (XK.load [CK.bool] false (Operand.tmp 81))), XS.mk (some 83) none (XI.k (XK.not (Operand.tmp 82)))]) (.ref 5)) (.ref 14)
def T6n16 : XC := .seq (.ops [XS.mk (some 80) none (XI.k (XK.load [CK.int IntKind.i64, CK.int IntKind.i64, CK.int IntKind.i64, CK.int IntKind.i64, CK.int IntKind.i64] true (Operand.tmp 3))), XS.mk (some 16) none (XI.k (XK.alloc 23 [Value.int IntKind.i64 0, Value.int IntKind.i64 0, Value.int IntKind.i64 0, Value.int IntKind.i64 0, Value.int IntKind.i64 0])), XS.mk none none (XI.k (XK.store 5 (Operand.tmp 16) (Operand.tmp 80)))]) (.ref 15)
def T6n17 : XC := .seq (.ops [XS.mk (some 76) none (XI.k (XK.load [CK.int IntKind.i64, CK.int IntKind.i64, CK.int IntKind.i64, CK.int IntKind.i64, CK.int IntKind.i64] true (Operand.tmp 3))), XS.mk (some 77) none (XI.k (XK.load [CK.int IntKind.u64, CK.int IntKind.u64, CK.int IntKind.u64, CK.int IntKind.u64, CK.int IntKind.u64, CK.int IntKind.u64, CK.int IntKind.u64, CK.int IntKind.u64] true (Operand.tmp 12))), XS.mk (some 78) none (XI.k (XK.mov (Operand.tmp 8))), XS.mk (some 79) none (XI.call 10 [Operand.tmp 76, Operand.tmp 77, Operand.tmp 78]), XS.mk (some 15) none (XI.k (XK.alloc 27 [Value.int IntKind.i64 0, Value.int IntKind.i64 0, Value.int IntKind.i64 0, Value.int IntKind.u64 0, Value.int IntKind.u64 0])), XS.mk none none (XI.k (XK.store 5 (Operand.tmp 15) (Operand.tmp 79)))]) (.ref 16)
def T6n18 : XC := .seq (.seq (.ops [XS.mk (some 14) none (XI.k (XK.mov (Operand.const (Value.int IntKind.i64 0))))]) (.blk 0 (.loop (.ref 4)))) (.ref 17)
def T6n19 : XC := .seq (.ops [XS.mk (some 40) none (XI.k (XK.fld 1 (Operand.tmp 3))), XS.mk (some 41) none (XI.k (XK.load [CK.int IntKind.i64] false (Operand.tmp 40))), XS.mk (some 42) none (XI.k (XK.fld 2 (Operand.tmp 3))), XS.mk (some 43) none (XI.k (XK.load [CK.int IntKind.i64] false (Operand.tmp 42))), XS.mk (some 44) none (XI.k (XK.fld 3 (Operand.tmp 3))), XS.mk (some 45) none (XI.k (XK.load [CK.int IntKind.i64] false (Operand.tmp 44))), XS.mk (some 46) none (XI.k (XK.build [Value.int IntKind.i64 0, Value.int IntKind.i64 0, Value.int IntKind.i64 0] [(0, 1, Operand.tmp 41), (1, 1, Operand.tmp 43), (2, 1, Operand.tmp 45)])), XS.mk (some 13) none (XI.k (XK.alloc 44 [Value.int IntKind.i64 0, Value.int IntKind.i64 0, Value.int IntKind.i64 0])), XS.mk none none (XI.k (XK.store 3 (Operand.tmp 13) (Operand.tmp 46)))]) (.ref 18)
def T6n20 : XC := .seq (.ops [XS.mk (some 38) none (XI.k (XK.idxA 2 8 (Operand.tmp 4) (Operand.const (Value.int IntKind.i64 1)))), XS.mk (some 39) none (XI.k (XK.load [CK.int IntKind.u64, CK.int IntKind.u64, CK.int IntKind.u64, CK.int IntKind.u64, CK.int IntKind.u64, CK.int IntKind.u64, CK.int IntKind.u64, CK.int IntKind.u64] true (Operand.tmp 38))), XS.mk (some 12) none (XI.k (XK.alloc 25 [Value.int IntKind.u64 0, Value.int IntKind.u64 0, Value.int IntKind.u64 0, Value.int IntKind.u64 0, Value.int IntKind.u64 0, Value.int IntKind.u64 0, Value.int IntKind.u64 0, Value.int IntKind.u64 0])), XS.mk none none (XI.k (XK.store 8 (Operand.tmp 12) (Operand.tmp 39)))]) (.ref 19)
def T6n21 : XC := .seq (.ops [XS.mk (some 35) none (XI.k (XK.fld 0 (Operand.tmp 3))), XS.mk (some 36) none (XI.k (XK.load [CK.int IntKind.i64] false (Operand.tmp 35))), XS.mk (some 37) none (XI.call 19 [Operand.tmp 36]), XS.mk (some 11) none (XI.k (XK.alloc 42 [Value.bool false, Value.bool false, Value.bool false])), XS.mk none none (XI.k (XK.store 3 (Operand.tmp 11) (Operand.tmp 37)))]) (.ref 20)
def T6n22 : XC := .seq (.ops [XS.mk (some 30) none (XI.k (XK.load [CK.int IntKind.i64, CK.int IntKind.i64, CK.int IntKind.i64, CK.int IntKind.i64, CK.int IntKind.i64] true (Operand.tmp 3))), XS.mk (some 31) none (XI.k (XK.idxA 2 8 (Operand.tmp 4) (Operand.const (Value.int IntKind.i64 0)))), XS.mk (some 32) none (XI.k (XK.load [CK.int IntKind.u64, CK.int IntKind.u64, CK.int IntKind.u64, CK.int IntKind.u64, CK.int IntKind.u64, CK.int IntKind.u64, CK.int IntKind.u64, CK.int IntKind.u64] true (Operand.tmp 31))), XS.mk (some 33) none (XI.k (XK.mov (Operand.tmp 8))), XS.mk (some 34) none (XI.call 10 [Operand.tmp 30, Operand.tmp 32, Operand.tmp 33]), XS.mk (some 10) none (XI.k (XK.alloc 27 [Value.int IntKind.i64 0, Value.int IntKind.i64 0, Value.int IntKind.i64 0, Value.int IntKind.u64 0, Value.int IntKind.u64 0])), XS.mk none none (XI.k (XK.store 5 (Operand.tmp 10) (Operand.tmp 34)))]) (.ref 21)
def T6n23 : XC := .seq (.ops [XS.mk (some 22) none (XI.k (XK.idxA 2 1 (Operand.tmp 5) (Operand.const (Value.int IntKind.i64 0)))), XS.mk (some 23) none (XI.k (XK.load [CK.int IntKind.u16] false (Operand.tmp 22))), XS.mk (some 24) none (XI.k (XK.conv IntKind.i64 (Operand.tmp 23))), XS.mk (some 25) none (XI.k (XK.div BinOp.rem IntKind.i64 (Operand.tmp 24) (Operand.const (Value.int IntKind.i64 1024)))), XS.mk (some 26) none (XI.k (XK.idxA 2 1 (Operand.tmp 5) (Operand.const (Value.int IntKind.i64 1)))), XS.mk (some 27) none (XI.k (XK.load [CK.int IntKind.u16] false (Operand.tmp 26))), XS.mk (some 28) none (XI.k (XK.conv IntKind.i64 (Operand.tmp 27))), XS.mk (some 29) none (XI.k (XK.div BinOp.rem IntKind.i64 (Operand.tmp 28) (Operand.const (Value.int IntKind.i64 1024)))), XS.mk (some 8) none (XI.k (XK.mov (Operand.tmp 25))), XS.mk (some 9) none (XI.k (XK.mov (Operand.tmp 29)))]) (.ref 22)
def T6n24 : XC := .seq (.seq (.ops [XS.mk (some 20) none (XI.k (XK.mov (Operand.tmp 7))), XS.mk (some 21) none (XI.k (XK.not (Operand.tmp 20)))]) (.cond (Operand.tmp 21) (.ref 0) (.skip))) (.ref 23)
def T6n25 : XC := .seq (.ops [XS.mk (some 19) none (XI.call 18 []), XS.mk (some 7) none (XI.k (XK.mov (Operand.tmp 19)))]) (.ref 24)
def T6 : Nat → XC
  | 0 => T6n0
  | 1 => T6n1
  | 2 => T6n2
  | 3 => T6n3
  | 4 => T6n4
  | 5 => T6n5
  | 6 => T6n6
  | 7 => T6n7
  | 8 => T6n8
  | 9 => T6n9
  | 10 => T6n10
  | 11 => T6n11
  | 12 => T6n12
  | 13 => T6n13
  | 14 => T6n14
  | 15 => T6n15
  | 16 => T6n16
  | 17 => T6n17
  | 18 => T6n18
  | 19 => T6n19
  | 20 => T6n20
  | 21 => T6n21
  | 22 => T6n22
  | 23 => T6n23
  | 24 => T6n24
  | 25 => T6n25
  | _ => .skip
theorem t6n0 : T6 0 = T6n0 := rfl
theorem t6n1 : T6 1 = T6n1 := rfl
theorem t6n2 : T6 2 = T6n2 := rfl
theorem t6n3 : T6 3 = T6n3 := rfl
theorem t6n4 : T6 4 = T6n4 := rfl
theorem t6n5 : T6 5 = T6n5 := rfl
theorem t6n6 : T6 6 = T6n6 := rfl
theorem t6n7 : T6 7 = T6n7 := rfl
theorem t6n8 : T6 8 = T6n8 := rfl
theorem t6n9 : T6 9 = T6n9 := rfl
theorem t6n10 : T6 10 = T6n10 := rfl
theorem t6n11 : T6 11 = T6n11 := rfl
theorem t6n12 : T6 12 = T6n12 := rfl
theorem t6n13 : T6 13 = T6n13 := rfl
theorem t6n14 : T6 14 = T6n14 := rfl
theorem t6n15 : T6 15 = T6n15 := rfl
theorem t6n16 : T6 16 = T6n16 := rfl
theorem t6n17 : T6 17 = T6n17 := rfl
theorem t6n18 : T6 18 = T6n18 := rfl
theorem t6n19 : T6 19 = T6n19 := rfl
theorem t6n20 : T6 20 = T6n20 := rfl
theorem t6n21 : T6 21 = T6n21 := rfl
theorem t6n22 : T6 22 = T6n22 := rfl
theorem t6n23 : T6 23 = T6n23 := rfl
theorem t6n24 : T6 24 = T6n24 := rfl
theorem t6n25 : T6 25 = T6n25 := rfl
def X6 : XC := .seq (.ops [XS.mk (some 3) none (XI.k (XK.box 23 5 (Operand.tmp 0))), XS.mk (some 4) none (XI.k (XK.box 39 16 (Operand.tmp 1))), XS.mk (some 5) none (XI.k (XK.box 41 2 (Operand.tmp 2))), XS.mk (some 6) none (XI.k (XK.mov (Operand.const (Value.bool false))))]) (.ref 25)
abbrev K6 : List Nat := [0, 1, 2, 3, 4, 5, 6, 7, 8, 9, 10, 11, 12, 13, 14, 15, 16, 17, 18, 21, 48, 65, 83, 87, 91, 125]
theorem n6 : Tryd.f6.ntmps = 175 := by kernel_rfl
theorem r6 : resT Tryd.f6.results.toList = some [6] := by kernel_rfl
theorem x6 : cmpF Tryd.prog Tryd.f6 = some (expand T6 27 X6) := by kernel_rfl
def T19n0 : XC := .seq (.ops [XS.mk (some 6) none (XI.k (XK.build [Value.bool false, Value.bool false, Value.bool false] [(0, 1, Operand.const (Value.bool true))])), XS.mk none none (XI.k (XK.store 3 (Operand.tmp 2) (Operand.tmp 6)))]) (.ret)
def T19n1 : XC := .cond (Operand.tmp 7) (.skip) (.ops [XS.mk (some 13) none (XI.k (XK.cmp BinOp.eql IntKind.i64 (Operand.tmp 3) (Operand.const (Value.int IntKind.i64 16)))), XS.mk (some 7) none (XI.k (XK.mov (Operand.tmp 13)))])
def T19n2 : XC := .seq (.ops [XS.mk (some 12) none (XI.k (XK.cmp BinOp.eql IntKind.i64 (Operand.tmp 3) (Operand.const (Value.int IntKind.i64 15)))), XS.mk (some 7) none (XI.k (XK.mov (Operand.tmp 12)))]) (.ref 1)
def T19n3 : XC := .seq (.ops [XS.mk (some 11) none (XI.k (XK.cmp BinOp.eql IntKind.i64 (Operand.tmp 3) (Operand.const (Value.int IntKind.i64 14)))), XS.mk (some 7) none (XI.k (XK.mov (Operand.tmp 11)))]) (.cond (Operand.tmp 7) (.skip) (.ref 2))
def T19n4 : XC := .seq (.ops [XS.mk (some 10) none (XI.k (XK.cmp BinOp.eql IntKind.i64 (Operand.tmp 3) (Operand.const (Value.int IntKind.i64 12)))), XS.mk (some 7) none (XI.k (XK.mov (Operand.tmp 10)))]) (.cond (Operand.tmp 7) (.skip) (.ref 3))
def T19n5 : XC := .seq (.ops [XS.mk (some 9) none (XI.k (XK.cmp BinOp.eql IntKind.i64 (Operand.tmp 3) (Operand.const (Value.int IntKind.i64 11)))), XS.mk (some 7) none (XI.k (XK.mov (Operand.tmp 9)))]) (.cond (Operand.tmp 7) (.skip) (.ref 4))
def T19n6 : XC := .seq (.ops [XS.mk (some 14) none (XI.k (XK.build [Value.bool false, Value.bool false, Value.bool false] [(0, 1, Operand.const (Value.bool true)), (1, 1, Operand.const (Value.bool true))])), XS.mk none none (XI.k (XK.store 3 (Operand.tmp 2) (Operand.tmp 14)))]) (.ret)
def T19n7 : XC := .cond (Operand.tmp 15) (.skip) (.ops [XS.mk (some 22) none (XI.k (XK.cmp BinOp.eql IntKind.i64 (Operand.tmp 3) (Operand.const (Value.int IntKind.i64 10)))), XS.mk (some 15) none (XI.k (XK.mov (Operand.tmp 22)))])
def T19n8 : XC := .seq (.ops [XS.mk (some 21) none (XI.k (XK.cmp BinOp.eql IntKind.i64 (Operand.tmp 3) (Operand.const (Value.int IntKind.i64 9)))), XS.mk (some 15) none (XI.k (XK.mov (Operand.tmp 21)))]) (.ref 7)
def T19n9 : XC := .seq (.ops [XS.mk (some 20) none (XI.k (XK.cmp BinOp.eql IntKind.i64 (Operand.tmp 3) (Operand.const (Value.int IntKind.i64 8)))), XS.mk (some 15) none (XI.k (XK.mov (Operand.tmp 20)))]) (.cond (Operand.tmp 15) (.skip) (.ref 8))
def T19n10 : XC := .seq (.ops [XS.mk (some 19) none (XI.k (XK.cmp BinOp.eql IntKind.i64 (Operand.tmp 3) (Operand.const (Value.int IntKind.i64 7)))), XS.mk (some 15) none (XI.k (XK.mov (Operand.tmp 19)))]) (.cond (Operand.tmp 15) (.skip) (.ref 9))
def T19n11 : XC := .seq (.ops [XS.mk (some 18) none (XI.k (XK.cmp BinOp.eql IntKind.i64 (Operand.tmp 3) (Operand.const (Value.int IntKind.i64 6)))), XS.mk (some 15) none (XI.k (XK.mov (Operand.tmp 18)))]) (.cond (Operand.tmp 15) (.skip) (.ref 10))
def T19n12 : XC := .seq (.ops [XS.mk (some 17) none (XI.k (XK.cmp BinOp.eql IntKind.i64 (Operand.tmp 3) (Operand.const (Value.int IntKind.i64 5)))), XS.mk (some 15) none (XI.k (XK.mov (Operand.tmp 17)))]) (.cond (Operand.tmp 15) (.skip) (.ref 11))
def T19n13 : XC := .seq (.ops [XS.mk (some 23) none (XI.k (XK.build [Value.bool false, Value.bool false, Value.bool false] [(0, 1, Operand.const (Value.bool true)), (1, 1, Operand.const (Value.bool true)), (2, 1, Operand.const (Value.bool true))])), XS.mk none none (XI.k (XK.store 3 (Operand.tmp 2) (Operand.tmp 23)))]) (.ret)
def T19n14 : XC := .seq (.seq (.ops [XS.mk (some 16) none (XI.k (XK.cmp BinOp.eql IntKind.i64 (Operand.tmp 3) (Operand.const (Value.int IntKind.i64 4)))), XS.mk (some 15) none (XI.k (XK.mov (Operand.tmp 16)))]) (.cond (Operand.tmp 15) (.skip) (.ref 12))) (.cond (Operand.tmp 15) (.ref 13) (.skip))
def T19n15 : XC := .seq (.seq (.ops [XS.mk (some 8) none (XI.k (XK.cmp BinOp.eql IntKind.i64 (Operand.tmp 3) (Operand.const (Value.int IntKind.i64 3)))), XS.mk (some 7) none (XI.k (XK.mov (Operand.tmp 8)))]) (.cond (Operand.tmp 7) (.skip) (.ref 5))) (.cond (Operand.tmp 7) (.ref 6) (.ref 14))
def T19n16 : XC := .blk 0 (.seq (.ops [XS.mk (some 5) none (XI.k (XK.cmp BinOp.eql IntKind.i64 (Operand.tmp 3) (Operand.const (Value.int IntKind.i64 2)))), XS.mk (some 4) none (XI.k (XK.mov (Operand.tmp 5)))]) (.cond (Operand.tmp 4) (.ref 0) (.ref 15)))
def T19n17 : XC := .seq (.ops [XS.mk (some 24) none (XI.k (XK.build [Value.bool false, Value.bool false, Value.bool false] [])), XS.mk none none (XI.k (XK.store 3 (Operand.tmp 2) (Operand.tmp 24)))]) (.ret)
def T19n18 : XC := .seq (.seq (.ops [XS.mk (some 3) none (XI.k (XK.mov (Operand.tmp 0)))]) (.ref 16)) (.ref 17)
def T19 : Nat → XC
  | 0 => T19n0
  | 1 => T19n1
  | 2 => T19n2
  | 3 => T19n3
  | 4 => T19n4
  | 5 => T19n5
  | 6 => T19n6
  | 7 => T19n7
  | 8 => T19n8
  | 9 => T19n9
  | 10 => T19n10
  | 11 => T19n11
  | 12 => T19n12
  | 13 => T19n13
  | 14 => T19n14
  | 15 => T19n15
  | 16 => T19n16
  | 17 => T19n17
  | 18 => T19n18
  | _ => .skip
theorem t19n0 : T19 0 = T19n0 := rfl
theorem t19n1 : T19 1 = T19n1 := rfl
theorem t19n2 : T19 2 = T19n2 := rfl
theorem t19n3 : T19 3 = T19n3 := rfl
theorem t19n4 : T19 4 = T19n4 := rfl
theorem t19n5 : T19 5 = T19n5 := rfl
theorem t19n6 : T19 6 = T19n6 := rfl
theorem t19n7 : T19 7 = T19n7 := rfl
theorem t19n8 : T19 8 = T19n8 := rfl
theorem t19n9 : T19 9 = T19n9 := rfl
theorem t19n10 : T19 10 = T19n10 := rfl
theorem t19n11 : T19 11 = T19n11 := rfl
theorem t19n12 : T19 12 = T19n12 := rfl
theorem t19n13 : T19 13 = T19n13 := rfl
theorem t19n14 : T19 14 = T19n14 := rfl
theorem t19n15 : T19 15 = T19n15 := rfl
theorem t19n16 : T19 16 = T19n16 := rfl
theorem t19n17 : T19 17 = T19n17 := rfl
theorem t19n18 : T19 18 = T19n18 := rfl
def X19 : XC := .seq (.ops [XS.mk (some 2) none (XI.k (XK.alloc 42 [Value.bool false, Value.bool false, Value.bool false]))]) (.ref 18)
abbrev K19 : List Nat := [0, 2, 3, 4, 7, 15]
theorem n19 : Tryd.f19.ntmps = 25 := by kernel_rfl
theorem r19 : rvOf Tryd.prog Tryd.f19.results.toList = some [RV.cell 2 3 true] := by kernel_rfl
theorem x19 : cmpF Tryd.prog Tryd.f19 = some (expand T19 20 X19) := by kernel_rfl
end Go.Proofs.YtpoopljpodkdcaaDoor
