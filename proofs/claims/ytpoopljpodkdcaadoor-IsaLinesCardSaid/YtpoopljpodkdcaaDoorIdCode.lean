/- Printed by program: the small code of functions, and that it is theirs. -/
import Derived.Test.YtpoopljpodkdcaaDoorSxStill
import Derived.Test.YtpoopljpodkdcaaDoorProg
import Derived.KernelRfl
set_option linter.unusedSimpArgs false
set_option linter.unusedVariables false
set_option linter.unnecessarySimpa false
namespace Go.Proofs.YtpoopljpodkdcaaDoor
open Go Go.Sx
set_option maxRecDepth 100000
def T10n0 : XC := .seq (.ops [XS.mk (some 26) none (XI.k (XK.build [Value.int IntKind.i64 0, Value.int IntKind.i64 0, Value.int IntKind.i64 0, Value.int IntKind.u64 0, Value.int IntKind.u64 0] [])), XS.mk none none (XI.k (XK.store 5 (Operand.tmp 6) (Operand.tmp 26)))]) (.ret)
def T10n1 : XC := .seq (.ops [XS.mk (some 52) none (XI.k (XK.mov (Operand.tmp 9))), XS.mk (some 53) none (XI.callv (Operand.tmp 52) [Operand.const (Value.int IntKind.i64 7)]), XS.mk none none (XI.k (XK.store 5 (Operand.tmp 6) (Operand.tmp 53)))]) (.ret)
def T10n2 : XC := .seq (.ops [XS.mk (some 56) none (XI.k (XK.mov (Operand.tmp 7))), XS.mk (some 57) none (XI.k (XK.fld 4 (Operand.tmp 3))), XS.mk (some 58) none (XI.k (XK.load [CK.int IntKind.i64] false (Operand.tmp 57))), XS.mk (some 59) none (XI.k (XK.conv IntKind.u64 (Operand.tmp 58))), XS.mk (some 60) none (XI.callv (Operand.tmp 56) [Operand.tmp 59]), XS.mk none none (XI.k (XK.store 5 (Operand.tmp 6) (Operand.tmp 60)))]) (.ret)
def T10n3 : XC := .seq (.ops [XS.mk (some 63) none (XI.k (XK.mov (Operand.tmp 7))), XS.mk (some 64) none (XI.k (XK.mov (Operand.tmp 12))), XS.mk (some 65) none (XI.callv (Operand.tmp 63) [Operand.tmp 64]), XS.mk none none (XI.k (XK.store 5 (Operand.tmp 6) (Operand.tmp 65)))]) (.ret)
def T10n4 : XC := .seq (.ops [XS.mk (some 68) none (XI.k (XK.mov (Operand.tmp 7))), XS.mk (some 69) none (XI.k (XK.mov (Operand.tmp 12))), XS.mk (some 70) none (XI.k (XK.mov (Operand.tmp 13))), XS.mk (some 71) none (XI.k (XK.arith BinOp.add IntKind.u64 (Operand.tmp 69) (Operand.tmp 70))), XS.mk (some 72) none (XI.callv (Operand.tmp 68) [Operand.tmp 71]), XS.mk none none (XI.k (XK.store 5 (Operand.tmp 6) (Operand.tmp 72)))]) (.ret)
def T10n5 : XC := .seq (.ops [XS.mk (some 75) none (XI.k (XK.mov (Operand.tmp 7))), XS.mk (some 76) none (XI.k (XK.mov (Operand.tmp 12))), XS.mk (some 77) none (XI.k (XK.mov (Operand.tmp 13))), XS.mk (some 78) none (XI.k (XK.arith BinOp.sub IntKind.u64 (Operand.tmp 76) (Operand.tmp 77))), XS.mk (some 79) none (XI.callv (Operand.tmp 75) [Operand.tmp 78]), XS.mk none none (XI.k (XK.store 5 (Operand.tmp 6) (Operand.tmp 79)))]) (.ret)
def T10n6 : XC := .seq (.ops [XS.mk (some 82) none (XI.k (XK.mov (Operand.tmp 7))), XS.mk (some 83) none (XI.k (XK.mov (Operand.tmp 12))), XS.mk (some 84) none (XI.k (XK.mov (Operand.tmp 13))), XS.mk (some 85) none (XI.k (XK.arith BinOp.mul IntKind.u64 (Operand.tmp 83) (Operand.tmp 84))), XS.mk (some 86) none (XI.callv (Operand.tmp 82) [Operand.tmp 85]), XS.mk none none (XI.k (XK.store 5 (Operand.tmp 6) (Operand.tmp 86)))]) (.ret)
def T10n7 : XC := .seq (.ops [XS.mk (some 89) none (XI.k (XK.mov (Operand.tmp 7))), XS.mk (some 90) none (XI.k (XK.mov (Operand.tmp 12))), XS.mk (some 91) none (XI.k (XK.mov (Operand.tmp 13))), XS.mk (some 92) none (XI.k (XK.bits BinOp.and IntKind.u64 (Operand.tmp 90) (Operand.tmp 91))), XS.mk (some 93) none (XI.callv (Operand.tmp 89) [Operand.tmp 92]), XS.mk none none (XI.k (XK.store 5 (Operand.tmp 6) (Operand.tmp 93)))]) (.ret)
def T10n8 : XC := .seq (.ops [XS.mk (some 96) none (XI.k (XK.mov (Operand.tmp 7))), XS.mk (some 97) none (XI.k (XK.mov (Operand.tmp 12))), XS.mk (some 98) none (XI.k (XK.mov (Operand.tmp 13))), XS.mk (some 99) none (XI.k (XK.bits BinOp.xor IntKind.u64 (Operand.tmp 97) (Operand.tmp 98))), XS.mk (some 100) none (XI.callv (Operand.tmp 96) [Operand.tmp 99]), XS.mk none none (XI.k (XK.store 5 (Operand.tmp 6) (Operand.tmp 100)))]) (.ret)
def T10n9 : XC := .seq (.ops [XS.mk (some 103) none (XI.k (XK.mov (Operand.tmp 7))), XS.mk (some 104) none (XI.k (XK.mov (Operand.tmp 12))), XS.mk (some 105) none (XI.k (XK.mov (Operand.tmp 13))), XS.mk (some 106) none (XI.k (XK.div BinOp.rem IntKind.u64 (Operand.tmp 105) (Operand.const (Value.int IntKind.u64 64)))), XS.mk (some 107) none (XI.k (XK.shift BinOp.shl IntKind.u64 (Operand.tmp 104) (Operand.tmp 106))), XS.mk (some 108) none (XI.callv (Operand.tmp 103) [Operand.tmp 107]), XS.mk none none (XI.k (XK.store 5 (Operand.tmp 6) (Operand.tmp 108)))]) (.ret)
def T10n10 : XC := .seq (.ops [XS.mk (some 111) none (XI.k (XK.mov (Operand.tmp 7))), XS.mk (some 112) none (XI.k (XK.mov (Operand.tmp 12))), XS.mk (some 113) none (XI.k (XK.mov (Operand.tmp 13))), XS.mk (some 114) none (XI.k (XK.div BinOp.rem IntKind.u64 (Operand.tmp 113) (Operand.const (Value.int IntKind.u64 64)))), XS.mk (some 115) none (XI.k (XK.shift BinOp.shr IntKind.u64 (Operand.tmp 112) (Operand.tmp 114))), XS.mk (some 116) none (XI.callv (Operand.tmp 111) [Operand.tmp 115]), XS.mk none none (XI.k (XK.store 5 (Operand.tmp 6) (Operand.tmp 116)))]) (.ret)
def T10n11 : XC := .seq (.ops [XS.mk (some 119) none (XI.k (XK.load [CK.int IntKind.i64] false (Operand.tmp 5))), XS.mk (some 120) none (XI.k (XK.arith BinOp.add IntKind.i64 (Operand.tmp 119) (Operand.const (Value.int IntKind.i64 1)))), XS.mk (some 121) none (XI.k (XK.fld 1 (Operand.tmp 3))), XS.mk (some 122) none (XI.k (XK.load [CK.int IntKind.i64] false (Operand.tmp 121))), XS.mk (some 123) none (XI.k (XK.mov (Operand.tmp 14))), XS.mk (some 124) none (XI.k (XK.build [Value.int IntKind.i64 0, Value.int IntKind.i64 0, Value.int IntKind.i64 0, Value.int IntKind.u64 0, Value.int IntKind.u64 0] [(0, 1, Operand.const (Value.int IntKind.i64 3)), (1, 1, Operand.tmp 120), (2, 1, Operand.tmp 122), (4, 1, Operand.tmp 123)])), XS.mk none none (XI.k (XK.store 5 (Operand.tmp 6) (Operand.tmp 124)))]) (.ret)
def T10n12 : XC := .seq (.ops [XS.mk (some 127) none (XI.k (XK.load [CK.int IntKind.i64] false (Operand.tmp 5))), XS.mk (some 128) none (XI.k (XK.arith BinOp.add IntKind.i64 (Operand.tmp 127) (Operand.const (Value.int IntKind.i64 1)))), XS.mk (some 129) none (XI.k (XK.mov (Operand.tmp 11))), XS.mk (some 130) none (XI.k (XK.mov (Operand.tmp 14))), XS.mk (some 131) none (XI.k (XK.build [Value.int IntKind.i64 0, Value.int IntKind.i64 0, Value.int IntKind.i64 0, Value.int IntKind.u64 0, Value.int IntKind.u64 0] [(0, 1, Operand.const (Value.int IntKind.i64 4)), (1, 1, Operand.tmp 128), (3, 1, Operand.tmp 129), (4, 1, Operand.tmp 130)])), XS.mk none none (XI.k (XK.store 5 (Operand.tmp 6) (Operand.tmp 131)))]) (.ret)
def T10n13 : XC := .seq (.ops [XS.mk (some 134) none (XI.k (XK.mov (Operand.tmp 8))), XS.mk (some 135) none (XI.callv (Operand.tmp 134) [Operand.const (Value.bool true)]), XS.mk none none (XI.k (XK.store 5 (Operand.tmp 6) (Operand.tmp 135)))]) (.ret)
def T10n14 : XC := .seq (.ops [XS.mk (some 138) none (XI.k (XK.mov (Operand.tmp 8))), XS.mk (some 139) none (XI.k (XK.mov (Operand.tmp 11))), XS.mk (some 140) none (XI.k (XK.mov (Operand.tmp 12))), XS.mk (some 141) none (XI.k (XK.cmp BinOp.eql IntKind.u64 (Operand.tmp 139) (Operand.tmp 140))), XS.mk (some 142) none (XI.callv (Operand.tmp 138) [Operand.tmp 141]), XS.mk none none (XI.k (XK.store 5 (Operand.tmp 6) (Operand.tmp 142)))]) (.ret)
def T10n15 : XC := .seq (.ops [XS.mk (some 145) none (XI.k (XK.mov (Operand.tmp 8))), XS.mk (some 146) none (XI.k (XK.mov (Operand.tmp 11))), XS.mk (some 147) none (XI.k (XK.mov (Operand.tmp 12))), XS.mk (some 148) none (XI.k (XK.cmp BinOp.neq IntKind.u64 (Operand.tmp 146) (Operand.tmp 147))), XS.mk (some 149) none (XI.callv (Operand.tmp 145) [Operand.tmp 148]), XS.mk none none (XI.k (XK.store 5 (Operand.tmp 6) (Operand.tmp 149)))]) (.ret)
def T10n16 : XC := .seq (.ops [XS.mk (some 152) none (XI.k (XK.mov (Operand.tmp 8))), XS.mk (some 153) none (XI.k (XK.mov (Operand.tmp 11))), XS.mk (some 154) none (XI.k (XK.mov (Operand.tmp 12))), XS.mk (some 155) none (XI.k (XK.cmp BinOp.lss IntKind.u64 (Operand.tmp 153) (Operand.tmp 154))), XS.mk (some 156) none (XI.callv (Operand.tmp 152) [Operand.tmp 155]), XS.mk none none (XI.k (XK.store 5 (Operand.tmp 6) (Operand.tmp 156)))]) (.ret)
def T10n17 : XC := .seq (.ops [XS.mk (some 159) none (XI.k (XK.mov (Operand.tmp 9))), XS.mk (some 160) none (XI.callv (Operand.tmp 159) [Operand.const (Value.int IntKind.i64 5)]), XS.mk none none (XI.k (XK.store 5 (Operand.tmp 6) (Operand.tmp 160)))]) (.ret)
def T10n18 : XC := .seq (.ops [XS.mk (some 158) none (XI.k (XK.cmp BinOp.eql IntKind.i64 (Operand.tmp 49) (Operand.const (Value.int IntKind.i64 17)))), XS.mk (some 157) none (XI.k (XK.mov (Operand.tmp 158)))]) (.cond (Operand.tmp 157) (.ref 17) (.skip))
def T10n19 : XC := .seq (.ops [XS.mk (some 151) none (XI.k (XK.cmp BinOp.eql IntKind.i64 (Operand.tmp 49) (Operand.const (Value.int IntKind.i64 16)))), XS.mk (some 150) none (XI.k (XK.mov (Operand.tmp 151)))]) (.cond (Operand.tmp 150) (.ref 16) (.ref 18))
def T10n20 : XC := .seq (.ops [XS.mk (some 144) none (XI.k (XK.cmp BinOp.eql IntKind.i64 (Operand.tmp 49) (Operand.const (Value.int IntKind.i64 15)))), XS.mk (some 143) none (XI.k (XK.mov (Operand.tmp 144)))]) (.cond (Operand.tmp 143) (.ref 15) (.ref 19))
def T10n21 : XC := .seq (.ops [XS.mk (some 137) none (XI.k (XK.cmp BinOp.eql IntKind.i64 (Operand.tmp 49) (Operand.const (Value.int IntKind.i64 14)))), XS.mk (some 136) none (XI.k (XK.mov (Operand.tmp 137)))]) (.cond (Operand.tmp 136) (.ref 14) (.ref 20))
def T10n22 : XC := .seq (.ops [XS.mk (some 133) none (XI.k (XK.cmp BinOp.eql IntKind.i64 (Operand.tmp 49) (Operand.const (Value.int IntKind.i64 13)))), XS.mk (some 132) none (XI.k (XK.mov (Operand.tmp 133)))]) (.cond (Operand.tmp 132) (.ref 13) (.ref 21))
def T10n23 : XC := .seq (.ops [XS.mk (some 126) none (XI.k (XK.cmp BinOp.eql IntKind.i64 (Operand.tmp 49) (Operand.const (Value.int IntKind.i64 12)))), XS.mk (some 125) none (XI.k (XK.mov (Operand.tmp 126)))]) (.cond (Operand.tmp 125) (.ref 12) (.ref 22))
def T10n24 : XC := .seq (.ops [XS.mk (some 118) none (XI.k (XK.cmp BinOp.eql IntKind.i64 (Operand.tmp 49) (Operand.const (Value.int IntKind.i64 11)))), XS.mk (some 117) none (XI.k (XK.mov (Operand.tmp 118)))]) (.cond (Operand.tmp 117) (.ref 11) (.ref 23))
def T10n25 : XC := .seq (.ops [XS.mk (some 110) none (XI.k (XK.cmp BinOp.eql IntKind.i64 (Operand.tmp 49) (Operand.const (Value.int IntKind.i64 10)))), XS.mk (some 109) none (XI.k (XK.mov (Operand.tmp 110)))]) (.cond (Operand.tmp 109) (.ref 10) (.ref 24))
def T10n26 : XC := .seq (.ops [XS.mk (some 102) none (XI.k (XK.cmp BinOp.eql IntKind.i64 (Operand.tmp 49) (Operand.const (Value.int IntKind.i64 9)))), XS.mk (some 101) none (XI.k (XK.mov (Operand.tmp 102)))]) (.cond (Operand.tmp 101) (.ref 9) (.ref 25))
def T10n27 : XC := .seq (.ops [XS.mk (some 95) none (XI.k (XK.cmp BinOp.eql IntKind.i64 (Operand.tmp 49) (Operand.const (Value.int IntKind.i64 8)))), XS.mk (some 94) none (XI.k (XK.mov (Operand.tmp 95)))]) (.cond (Operand.tmp 94) (.ref 8) (.ref 26))
def T10n28 : XC := .seq (.ops [XS.mk (some 88) none (XI.k (XK.cmp BinOp.eql IntKind.i64 (Operand.tmp 49) (Operand.const (Value.int IntKind.i64 7)))), XS.mk (some 87) none (XI.k (XK.mov (Operand.tmp 88)))]) (.cond (Operand.tmp 87) (.ref 7) (.ref 27))
def T10n29 : XC := .seq (.ops [XS.mk (some 81) none (XI.k (XK.cmp BinOp.eql IntKind.i64 (Operand.tmp 49) (Operand.const (Value.int IntKind.i64 6)))), XS.mk (some 80) none (XI.k (XK.mov (Operand.tmp 81)))]) (.cond (Operand.tmp 80) (.ref 6) (.ref 28))
def T10n30 : XC := .seq (.ops [XS.mk (some 74) none (XI.k (XK.cmp BinOp.eql IntKind.i64 (Operand.tmp 49) (Operand.const (Value.int IntKind.i64 5)))), XS.mk (some 73) none (XI.k (XK.mov (Operand.tmp 74)))]) (.cond (Operand.tmp 73) (.ref 5) (.ref 29))
def T10n31 : XC := .seq (.ops [XS.mk (some 67) none (XI.k (XK.cmp BinOp.eql IntKind.i64 (Operand.tmp 49) (Operand.const (Value.int IntKind.i64 4)))), XS.mk (some 66) none (XI.k (XK.mov (Operand.tmp 67)))]) (.cond (Operand.tmp 66) (.ref 4) (.ref 30))
def T10n32 : XC := .seq (.ops [XS.mk (some 62) none (XI.k (XK.cmp BinOp.eql IntKind.i64 (Operand.tmp 49) (Operand.const (Value.int IntKind.i64 3)))), XS.mk (some 61) none (XI.k (XK.mov (Operand.tmp 62)))]) (.cond (Operand.tmp 61) (.ref 3) (.ref 31))
def T10n33 : XC := .seq (.ops [XS.mk (some 55) none (XI.k (XK.cmp BinOp.eql IntKind.i64 (Operand.tmp 49) (Operand.const (Value.int IntKind.i64 2)))), XS.mk (some 54) none (XI.k (XK.mov (Operand.tmp 55)))]) (.cond (Operand.tmp 54) (.ref 2) (.ref 32))
def T10n34 : XC := .blk 0 (.seq (.ops [XS.mk (some 51) none (XI.k (XK.cmp BinOp.eql IntKind.i64 (Operand.tmp 49) (Operand.const (Value.int IntKind.i64 1)))), XS.mk (some 50) none (XI.k (XK.mov (Operand.tmp 51)))]) (.cond (Operand.tmp 50) (.ref 1) (.ref 33)))
def T10n35 : XC := .seq (.ops [XS.mk (some 161) none (XI.k (XK.mov (Operand.tmp 9))), XS.mk (some 162) none (XI.callv (Operand.tmp 161) [Operand.const (Value.int IntKind.i64 6)]), XS.mk none none (XI.k (XK.store 5 (Operand.tmp 6) (Operand.tmp 162)))]) (.ret)
def T10n36 : XC := .seq (.seq (.ops [XS.mk (some 48) none (XI.k (XK.fld 0 (Operand.tmp 3))), XS.mk (some 49) none (XI.k (XK.load [CK.int IntKind.i64] false (Operand.tmp 48)))]) (.ref 34)) (.ref 35)
def T10n37 : XC := .seq (.ops [XS.mk (some 43) none (XI.k (XK.mov (Operand.tmp 12))), XS.mk (some 44) none (XI.k (XK.fld 4 (Operand.tmp 3))), XS.mk (some 45) none (XI.k (XK.load [CK.int IntKind.i64] false (Operand.tmp 44))), XS.mk (some 46) none (XI.k (XK.conv IntKind.u64 (Operand.tmp 45))), XS.mk (some 47) none (XI.k (XK.arith BinOp.add IntKind.u64 (Operand.tmp 43) (Operand.tmp 46))), XS.mk (some 14) none (XI.k (XK.mov (Operand.tmp 47)))]) (.ref 36)
def T10n38 : XC := .seq (.ops [XS.mk (some 31) none (XI.k (XK.mov (Operand.tmp 10))), XS.mk (some 32) none (XI.k (XK.fld 1 (Operand.tmp 3))), XS.mk (some 35) none (XI.k (XK.mov (Operand.tmp 10))), XS.mk (some 36) none (XI.k (XK.fld 2 (Operand.tmp 3))), XS.mk (some 39) none (XI.k (XK.mov (Operand.tmp 10))), XS.mk (some 40) none (XI.k (XK.fld 3 (Operand.tmp 3))), XS.mk (some 33) none (XI.k (XK.load [CK.int IntKind.i64] false (Operand.tmp 32))), XS.mk (some 37) none (XI.k (XK.load [CK.int IntKind.i64] false (Operand.tmp 36))), XS.mk (some 41) none (XI.k (XK.load [CK.int IntKind.i64] false (Operand.tmp 40))), XS.mk (some 34) none (XI.callv (Operand.tmp 31) [Operand.tmp 33]), XS.mk none none (XI.still 41 (XK.load [CK.int IntKind.i64] false (Operand.tmp 40))), XS.mk none none (XI.still 37 (XK.load [CK.int IntKind.i64] false (Operand.tmp 36))), XS.mk (some 38) none (XI.callv (Operand.tmp 35) [Operand.tmp 37]), XS.mk none none (XI.still 41 (XK.load [CK.int IntKind.i64] false (Operand.tmp 40))), XS.mk (some 42) none (XI.callv (Operand.tmp 39) [Operand.tmp 41]), XS.mk (some 11) none (XI.k (XK.mov (Operand.tmp 34))), XS.mk (some 12) none (XI.k (XK.mov (Operand.tmp 38))), XS.mk (some 13) none (XI.k (XK.mov (Operand.tmp 42)))]) (.ref 37)
def T10n39 : XC := .seq (.ops [XS.mk (some 30) none (XI.k (XK.mkfn (Fn.func 28) [] [Operand.tmp 4])), XS.mk (some 10) none (XI.k (XK.mov (Operand.tmp 30)))]) (.ref 38)
def T10n40 : XC := .seq (.ops [XS.mk (some 29) none (XI.k (XK.mkfn (Fn.func 27) [] [Operand.tmp 5])), XS.mk (some 9) none (XI.k (XK.mov (Operand.tmp 29)))]) (.ref 39)
def T10n41 : XC := .seq (.ops [XS.mk (some 28) none (XI.k (XK.mkfn (Fn.func 26) [] [Operand.tmp 5, Operand.tmp 3])), XS.mk (some 8) none (XI.k (XK.mov (Operand.tmp 28)))]) (.ref 40)
def T10n42 : XC := .seq (.ops [XS.mk (some 27) none (XI.k (XK.mkfn (Fn.func 25) [] [Operand.tmp 5, Operand.tmp 3])), XS.mk (some 7) none (XI.k (XK.mov (Operand.tmp 27)))]) (.ref 41)
def T10n43 : XC := .seq (.seq (.ops [XS.mk (some 15) none (XI.k (XK.load [CK.int IntKind.i64, CK.int IntKind.i64, CK.int IntKind.i64, CK.int IntKind.i64, CK.int IntKind.i64] true (Operand.tmp 3))), XS.mk (some 16) none (XI.call 12 [Operand.tmp 15]), XS.mk (some 17) none (XI.k (XK.not (Operand.tmp 16))), XS.mk (some 18) none (XI.k (XK.mov (Operand.tmp 17))), XS.mk (some 19) (some (18, false)) (XI.k (XK.load [CK.int IntKind.i64] false (Operand.tmp 5))), XS.mk (some 20) (some (18, false)) (XI.k (XK.cmp BinOp.lss IntKind.i64 (Operand.tmp 19) (Operand.const (Value.int IntKind.i64 0)))), XS.mk (some 21) none (XI.k (XK.pick (Operand.tmp 18) (Operand.const (Value.bool true)) (Operand.tmp 20))), XS.mk (some 22) none (XI.k (XK.mov (Operand.tmp 21))), XS.mk (some 23) (some (22, false)) (XI.k (XK.load [CK.int IntKind.i64] false (Operand.tmp 5))), XS.mk (some 24) (some (22, false)) (XI.k (XK.cmp BinOp.geq IntKind.i64 (Operand.tmp 23) (Operand.const (Value.int IntKind.i64 1024)))), XS.mk (some 25) none (XI.k (XK.pick (Operand.tmp 22) (Operand.const (Value.bool true)) (Operand.tmp 24)))]) (.cond (Operand.tmp 25) (.ref 0) (.skip))) (.ref 42)
def T10 : Nat → XC
  | 0 => T10n0
  | 1 => T10n1
  | 2 => T10n2
  | 3 => T10n3
  | 4 => T10n4
  | 5 => T10n5
  | 6 => T10n6
  | 7 => T10n7
  | 8 => T10n8
  | 9 => T10n9
  | 10 => T10n10
  | 11 => T10n11
  | 12 => T10n12
  | 13 => T10n13
  | 14 => T10n14
  | 15 => T10n15
  | 16 => T10n16
  | 17 => T10n17
  | 18 => T10n18
  | 19 => T10n19
  | 20 => T10n20
  | 21 => T10n21
  | 22 => T10n22
  | 23 => T10n23
  | 24 => T10n24
  | 25 => T10n25
  | 26 => T10n26
  | 27 => T10n27
  | 28 => T10n28
  | 29 => T10n29
  | 30 => T10n30
  | 31 => T10n31
  | 32 => T10n32
  | 33 => T10n33
  | 34 => T10n34
  | 35 => T10n35
  | 36 => T10n36
  | 37 => T10n37
  | 38 => T10n38
  | 39 => T10n39
  | 40 => T10n40
  | 41 => T10n41
  | 42 => T10n42
  | 43 => T10n43
  | _ => .skip
theorem t10n0 : T10 0 = T10n0 := rfl
theorem t10n1 : T10 1 = T10n1 := rfl
theorem t10n2 : T10 2 = T10n2 := rfl
theorem t10n3 : T10 3 = T10n3 := rfl
theorem t10n4 : T10 4 = T10n4 := rfl
theorem t10n5 : T10 5 = T10n5 := rfl
theorem t10n6 : T10 6 = T10n6 := rfl
theorem t10n7 : T10 7 = T10n7 := rfl
theorem t10n8 : T10 8 = T10n8 := rfl
theorem t10n9 : T10 9 = T10n9 := rfl
theorem t10n10 : T10 10 = T10n10 := rfl
theorem t10n11 : T10 11 = T10n11 := rfl
theorem t10n12 : T10 12 = T10n12 := rfl
theorem t10n13 : T10 13 = T10n13 := rfl
theorem t10n14 : T10 14 = T10n14 := rfl
theorem t10n15 : T10 15 = T10n15 := rfl
theorem t10n16 : T10 16 = T10n16 := rfl
theorem t10n17 : T10 17 = T10n17 := rfl
theorem t10n18 : T10 18 = T10n18 := rfl
theorem t10n19 : T10 19 = T10n19 := rfl
theorem t10n20 : T10 20 = T10n20 := rfl
theorem t10n21 : T10 21 = T10n21 := rfl
theorem t10n22 : T10 22 = T10n22 := rfl
theorem t10n23 : T10 23 = T10n23 := rfl
theorem t10n24 : T10 24 = T10n24 := rfl
theorem t10n25 : T10 25 = T10n25 := rfl
theorem t10n26 : T10 26 = T10n26 := rfl
theorem t10n27 : T10 27 = T10n27 := rfl
theorem t10n28 : T10 28 = T10n28 := rfl
theorem t10n29 : T10 29 = T10n29 := rfl
theorem t10n30 : T10 30 = T10n30 := rfl
theorem t10n31 : T10 31 = T10n31 := rfl
theorem t10n32 : T10 32 = T10n32 := rfl
theorem t10n33 : T10 33 = T10n33 := rfl
theorem t10n34 : T10 34 = T10n34 := rfl
theorem t10n35 : T10 35 = T10n35 := rfl
theorem t10n36 : T10 36 = T10n36 := rfl
theorem t10n37 : T10 37 = T10n37 := rfl
theorem t10n38 : T10 38 = T10n38 := rfl
theorem t10n39 : T10 39 = T10n39 := rfl
theorem t10n40 : T10 40 = T10n40 := rfl
theorem t10n41 : T10 41 = T10n41 := rfl
theorem t10n42 : T10 42 = T10n42 := rfl
theorem t10n43 : T10 43 = T10n43 := rfl
def X10 : XC := .seq (.ops [XS.mk (some 3) none (XI.k (XK.box 23 5 (Operand.tmp 0))), XS.mk (some 4) none (XI.k (XK.box 25 8 (Operand.tmp 1))), XS.mk (some 5) none (XI.k (XK.box 3 1 (Operand.tmp 2))), XS.mk (some 6) none (XI.k (XK.alloc 27 [Value.int IntKind.i64 0, Value.int IntKind.i64 0, Value.int IntKind.i64 0, Value.int IntKind.u64 0, Value.int IntKind.u64 0]))]) (.ref 43)
abbrev K10 : List Nat := [0, 1, 2, 3, 4, 5, 6, 7, 8, 9, 10, 11, 12, 13, 14, 25, 49, 50, 54, 61, 66, 73, 80, 87, 94, 101, 109, 117, 125, 132, 136, 143, 150, 157]
theorem n10 : Tryd.f10.ntmps = 163 := by kernel_rfl
theorem r10 : rvOf Tryd.prog Tryd.f10.results.toList = some [RV.cell 6 5 true] := by kernel_rfl
theorem x10 : cmpF Tryd.prog Tryd.f10 = some (expand T10 45 X10) := by kernel_rfl
def T12n0 : XC := .seq (.ops [XS.mk (some 2) none (XI.k (XK.mov (Operand.const (Value.bool false))))]) (.ret)
def T12n1 : XC := .seq (.ops [XS.mk (some 24) none (XI.k (XK.mov (Operand.tmp 3))), XS.mk (some 25) none (XI.k (XK.mov (Operand.tmp 5))), XS.mk (some 26) none (XI.k (XK.ixT (Operand.const (Value.string (ByteArray.mk (Array.mk [UInt8.ofNat 65, UInt8.ofNat 66, UInt8.ofNat 67])))) (Operand.tmp 25))), XS.mk (some 27) none (XI.call 32 [Operand.tmp 24, Operand.tmp 26]), XS.mk (some 28) none (XI.k (XK.cmp BinOp.geq IntKind.i64 (Operand.tmp 27) (Operand.const (Value.int IntKind.i64 0)))), XS.mk (some 29) none (XI.k (XK.mov (Operand.tmp 28))), XS.mk (some 30) (some (29, true)) (XI.k (XK.mov (Operand.tmp 6))), XS.mk (some 31) (some (29, true)) (XI.k (XK.cmp BinOp.lss IntKind.i64 (Operand.tmp 30) (Operand.const (Value.int IntKind.i64 0)))), XS.mk (some 32) (some (29, true)) (XI.k (XK.mov (Operand.tmp 31))), XS.mk (some 33) (some (32, false)) (XI.k (XK.mov (Operand.tmp 6))), XS.mk (some 34) (some (32, false)) (XI.k (XK.cmp BinOp.geq IntKind.i64 (Operand.tmp 33) (Operand.const (Value.int IntKind.i64 8)))), XS.mk (some 35) (some (29, true)) (XI.k (XK.pick (Operand.tmp 32) (Operand.const (Value.bool true)) (Operand.tmp 34))), XS.mk (some 36) none (XI.k (XK.pick (Operand.tmp 29) (Operand.tmp 35) (Operand.const (Value.bool false))))]) (.cond (Operand.tmp 36) (.ref 0) (.skip))
def T12n2 : XC := .seq (.blk 1 (.seq (.ops [XS.mk (some 22) none (XI.k (XK.mov (Operand.tmp 20))), XS.mk (some 23) none (XI.k (XK.ixA 3 1 false (Operand.tmp 19) (Operand.tmp 20))), XS.mk (some 5) none (XI.k (XK.mov (Operand.tmp 22))), XS.mk (some 6) none (XI.k (XK.mov (Operand.tmp 23)))]) (.ref 1))) (.ops [XS.mk (some 37) none (XI.k (XK.arith BinOp.add IntKind.i64 (Operand.tmp 20) (Operand.const (Value.int IntKind.i64 1)))), XS.mk (some 20) none (XI.k (XK.mov (Operand.tmp 37)))])
def T12n3 : XC := .seq (.cond (Operand.tmp 21) (.skip) (.exit 0)) (.ref 2)
def T12n4 : XC := .seq (.ops [XS.mk (some 21) none (XI.k (XK.cmp BinOp.lss IntKind.i64 (Operand.tmp 20) (Operand.const (Value.int IntKind.i64 3))))]) (.ref 3)
def T12n5 : XC := .seq (.ops [XS.mk (some 38) none (XI.k (XK.mov (Operand.tmp 4))), XS.mk (some 2) none (XI.k (XK.mov (Operand.tmp 38)))]) (.ret)
def T12n6 : XC := .seq (.seq (.ops [XS.mk (some 13) none (XI.k (XK.fld 1 (Operand.tmp 1))), XS.mk (some 14) none (XI.k (XK.load [CK.int IntKind.i64] false (Operand.tmp 13))), XS.mk (some 15) none (XI.k (XK.fld 2 (Operand.tmp 1))), XS.mk (some 16) none (XI.k (XK.load [CK.int IntKind.i64] false (Operand.tmp 15))), XS.mk (some 17) none (XI.k (XK.fld 3 (Operand.tmp 1))), XS.mk (some 18) none (XI.k (XK.load [CK.int IntKind.i64] false (Operand.tmp 17))), XS.mk (some 19) none (XI.k (XK.build [Value.int IntKind.i64 0, Value.int IntKind.i64 0, Value.int IntKind.i64 0] [(0, 1, Operand.tmp 14), (1, 1, Operand.tmp 16), (2, 1, Operand.tmp 18)])), XS.mk (some 20) none (XI.k (XK.mov (Operand.const (Value.int IntKind.i64 0))))]) (.blk 0 (.loop (.ref 4)))) (.ref 5)
def T12n7 : XC := .seq (.ops [XS.mk (some 8) none (XI.k (XK.fld 0 (Operand.tmp 1))), XS.mk (some 9) none (XI.k (XK.load [CK.int IntKind.i64] false (Operand.tmp 8))), XS.mk (some 10) none (XI.call 31 [Operand.tmp 9]), XS.mk (some 7) none (XI.k (XK.mov (Operand.tmp 10))), XS.mk (some 11) none (XI.k (XK.ext (Operand.tmp 7) 0)), XS.mk (some 12) none (XI.k (XK.ext (Operand.tmp 7) 1)), XS.mk (some 3) none (XI.k (XK.mov (Operand.tmp 11))), XS.mk (some 4) none (XI.k (XK.mov (Operand.tmp 12)))]) (.ref 6)
def T12 : Nat → XC
  | 0 => T12n0
  | 1 => T12n1
  | 2 => T12n2
  | 3 => T12n3
  | 4 => T12n4
  | 5 => T12n5
  | 6 => T12n6
  | 7 => T12n7
  | _ => .skip
theorem t12n0 : T12 0 = T12n0 := rfl
theorem t12n1 : T12 1 = T12n1 := rfl
theorem t12n2 : T12 2 = T12n2 := rfl
theorem t12n3 : T12 3 = T12n3 := rfl
theorem t12n4 : T12 4 = T12n4 := rfl
theorem t12n5 : T12 5 = T12n5 := rfl
theorem t12n6 : T12 6 = T12n6 := rfl
theorem t12n7 : T12 7 = T12n7 := rfl
def X12 : XC := .seq (.ops [XS.mk (some 1) none (XI.k (XK.box 23 5 (Operand.tmp 0))), XS.mk (some 2) none (XI.k (XK.mov (Operand.const (Value.bool false))))]) (.ref 7)
abbrev K12 : List Nat := [0, 1, 2, 3, 4, 5, 6, 19, 20, 21, 36]
theorem n12 : Tryd.f12.ntmps = 39 := by kernel_rfl
theorem r12 : resT Tryd.f12.results.toList = some [2] := by kernel_rfl
theorem x12 : cmpF Tryd.prog Tryd.f12 = some (expand T12 9 X12) := by kernel_rfl
def T25n0 : XC := .seq (.ops [XS.mk (some 5) none (XI.k (XK.load [CK.int IntKind.i64] false (Operand.tmp 1))), XS.mk (some 6) none (XI.k (XK.arith BinOp.add IntKind.i64 (Operand.tmp 5) (Operand.const (Value.int IntKind.i64 1)))), XS.mk (some 7) none (XI.k (XK.fld 1 (Operand.tmp 2))), XS.mk (some 8) none (XI.k (XK.load [CK.int IntKind.i64] false (Operand.tmp 7))), XS.mk (some 9) none (XI.k (XK.mov (Operand.tmp 0))), XS.mk (some 10) none (XI.k (XK.build [Value.int IntKind.i64 0, Value.int IntKind.i64 0, Value.int IntKind.i64 0, Value.int IntKind.u64 0, Value.int IntKind.u64 0] [(0, 1, Operand.const (Value.int IntKind.i64 1)), (1, 1, Operand.tmp 6), (2, 1, Operand.tmp 8), (3, 1, Operand.tmp 9)])), XS.mk none none (XI.k (XK.store 5 (Operand.tmp 4) (Operand.tmp 10)))]) (.ret)
def T25 : Nat → XC
  | 0 => T25n0
  | _ => .skip
theorem t25n0 : T25 0 = T25n0 := rfl
def X25 : XC := .seq (.ops [XS.mk (some 4) none (XI.k (XK.alloc 27 [Value.int IntKind.i64 0, Value.int IntKind.i64 0, Value.int IntKind.i64 0, Value.int IntKind.u64 0, Value.int IntKind.u64 0]))]) (.ref 0)
abbrev K25 : List Nat := [0, 1, 2, 4]
theorem n25 : Tryd.f25.ntmps = 11 := by kernel_rfl
theorem r25 : rvOf Tryd.prog Tryd.f25.results.toList = some [RV.cell 4 5 true] := by kernel_rfl
theorem x25 : cmpF Tryd.prog Tryd.f25 = some (expand T25 2 X25) := by kernel_rfl
def T26n0 : XC := .seq (.ops [XS.mk (some 7) none (XI.k (XK.load [CK.int IntKind.i64] false (Operand.tmp 1))), XS.mk (some 8) none (XI.k (XK.arith BinOp.add IntKind.i64 (Operand.tmp 7) (Operand.const (Value.int IntKind.i64 1)))), XS.mk (some 9) none (XI.k (XK.build [Value.int IntKind.i64 0, Value.int IntKind.i64 0, Value.int IntKind.i64 0, Value.int IntKind.u64 0, Value.int IntKind.u64 0] [(0, 1, Operand.const (Value.int IntKind.i64 2)), (1, 1, Operand.tmp 8)])), XS.mk none none (XI.k (XK.store 5 (Operand.tmp 4) (Operand.tmp 9)))]) (.ret)
def T26n1 : XC := .seq (.ops [XS.mk (some 18) none (XI.k (XK.build [Value.int IntKind.i64 0, Value.int IntKind.i64 0, Value.int IntKind.i64 0, Value.int IntKind.u64 0, Value.int IntKind.u64 0] [])), XS.mk none none (XI.k (XK.store 5 (Operand.tmp 4) (Operand.tmp 18)))]) (.ret)
def T26n2 : XC := .seq (.ops [XS.mk (some 19) none (XI.k (XK.fld 4 (Operand.tmp 2))), XS.mk (some 20) none (XI.k (XK.load [CK.int IntKind.i64] false (Operand.tmp 19))), XS.mk (some 21) none (XI.k (XK.build [Value.int IntKind.i64 0, Value.int IntKind.i64 0, Value.int IntKind.i64 0, Value.int IntKind.u64 0, Value.int IntKind.u64 0] [(0, 1, Operand.const (Value.int IntKind.i64 2)), (1, 1, Operand.tmp 20)])), XS.mk none none (XI.k (XK.store 5 (Operand.tmp 4) (Operand.tmp 21)))]) (.ret)
def T26n3 : XC := .seq (.seq (.ops [XS.mk (some 10) none (XI.k (XK.fld 4 (Operand.tmp 2))), XS.mk (some 11) none (XI.k (XK.load [CK.int IntKind.i64] false (Operand.tmp 10))), XS.mk (some 12) none (XI.k (XK.cmp BinOp.lss IntKind.i64 (Operand.tmp 11) (Operand.const (Value.int IntKind.i64 0)))), XS.mk (some 13) none (XI.k (XK.mov (Operand.tmp 12))), XS.mk (some 14) (some (13, false)) (XI.k (XK.fld 4 (Operand.tmp 2))), XS.mk (some 15) (some (13, false)) (XI.k (XK.load [CK.int IntKind.i64] false (Operand.tmp 14))), XS.mk (some 16) (some (13, false)) (XI.k (XK.cmp BinOp.gtr IntKind.i64 (Operand.tmp 15) (Operand.const (Value.int IntKind.i64 1024)))), XS.mk (some 17) none (XI.k (XK.pick (Operand.tmp 13) (Operand.const (Value.bool true)) (Operand.tmp 16)))]) (.cond (Operand.tmp 17) (.ref 1) (.skip))) (.ref 2)
def T26n4 : XC := .seq (.seq (.ops [XS.mk (some 5) none (XI.k (XK.mov (Operand.tmp 0))), XS.mk (some 6) none (XI.k (XK.not (Operand.tmp 5)))]) (.cond (Operand.tmp 6) (.ref 0) (.skip))) (.ref 3)
def T26 : Nat → XC
  | 0 => T26n0
  | 1 => T26n1
  | 2 => T26n2
  | 3 => T26n3
  | 4 => T26n4
  | _ => .skip
theorem t26n0 : T26 0 = T26n0 := rfl
theorem t26n1 : T26 1 = T26n1 := rfl
theorem t26n2 : T26 2 = T26n2 := rfl
theorem t26n3 : T26 3 = T26n3 := rfl
theorem t26n4 : T26 4 = T26n4 := rfl
def X26 : XC := .seq (.ops [XS.mk (some 4) none (XI.k (XK.alloc 27 [Value.int IntKind.i64 0, Value.int IntKind.i64 0, Value.int IntKind.i64 0, Value.int IntKind.u64 0, Value.int IntKind.u64 0]))]) (.ref 4)
abbrev K26 : List Nat := [0, 1, 2, 4, 6, 17]
theorem n26 : Tryd.f26.ntmps = 22 := by kernel_rfl
theorem r26 : rvOf Tryd.prog Tryd.f26.results.toList = some [RV.cell 4 5 true] := by kernel_rfl
theorem x26 : cmpF Tryd.prog Tryd.f26 = some (expand T26 6 X26) := by kernel_rfl
def T27n0 : XC := .seq (.ops [XS.mk (some 4) none (XI.k (XK.mov (Operand.tmp 0))), XS.mk (some 5) none (XI.k (XK.load [CK.int IntKind.i64] false (Operand.tmp 1))), XS.mk (some 6) none (XI.k (XK.arith BinOp.add IntKind.i64 (Operand.tmp 5) (Operand.const (Value.int IntKind.i64 1)))), XS.mk (some 7) none (XI.k (XK.build [Value.int IntKind.i64 0, Value.int IntKind.i64 0, Value.int IntKind.i64 0, Value.int IntKind.u64 0, Value.int IntKind.u64 0] [(0, 1, Operand.tmp 4), (1, 1, Operand.tmp 6)])), XS.mk none none (XI.k (XK.store 5 (Operand.tmp 3) (Operand.tmp 7)))]) (.ret)
def T27 : Nat → XC
  | 0 => T27n0
  | _ => .skip
theorem t27n0 : T27 0 = T27n0 := rfl
def X27 : XC := .seq (.ops [XS.mk (some 3) none (XI.k (XK.alloc 27 [Value.int IntKind.i64 0, Value.int IntKind.i64 0, Value.int IntKind.i64 0, Value.int IntKind.u64 0, Value.int IntKind.u64 0]))]) (.ref 0)
abbrev K27 : List Nat := [0, 1, 3]
theorem n27 : Tryd.f27.ntmps = 8 := by kernel_rfl
theorem r27 : rvOf Tryd.prog Tryd.f27.results.toList = some [RV.cell 3 5 true] := by kernel_rfl
theorem x27 : cmpF Tryd.prog Tryd.f27 = some (expand T27 2 X27) := by kernel_rfl
def T28n0 : XC := .seq (.ops [XS.mk (some 4) none (XI.k (XK.mov (Operand.tmp 0))), XS.mk (some 5) none (XI.k (XK.bits BinOp.and IntKind.i64 (Operand.tmp 4) (Operand.const (Value.int IntKind.i64 7)))), XS.mk (some 6) none (XI.k (XK.idxA 8 1 (Operand.tmp 1) (Operand.tmp 5))), XS.mk (some 7) none (XI.k (XK.load [CK.int IntKind.u64] false (Operand.tmp 6))), XS.mk (some 3) none (XI.k (XK.mov (Operand.tmp 7)))]) (.ret)
def T28 : Nat → XC
  | 0 => T28n0
  | _ => .skip
theorem t28n0 : T28 0 = T28n0 := rfl
def X28 : XC := .seq (.ops [XS.mk (some 3) none (XI.k (XK.mov (Operand.const (Value.int IntKind.u64 0))))]) (.ref 0)
abbrev K28 : List Nat := [0, 1, 3]
theorem n28 : Tryd.f28.ntmps = 8 := by kernel_rfl
theorem r28 : resT Tryd.f28.results.toList = some [3] := by kernel_rfl
theorem x28 : cmpF Tryd.prog Tryd.f28 = some (expand T28 2 X28) := by kernel_rfl
def T31n0 : XC := .seq (.ops [XS.mk (some 2) none (XI.k (XK.mov (Operand.const (Value.string (ByteArray.mk (Array.mk [])))))), XS.mk (some 3) none (XI.k (XK.mov (Operand.const (Value.bool false))))]) (.ret)
def T31n1 : XC := .seq (.ops [XS.mk (some 10) none (XI.k (XK.mov (Operand.tmp 0))), XS.mk (some 11) none (XI.k (XK.idxA 19 2 (Operand.global 0) (Operand.tmp 10))), XS.mk (some 12) none (XI.k (XK.fld 1 (Operand.tmp 11))), XS.mk (some 13) none (XI.k (XK.load [CK.str] false (Operand.tmp 12))), XS.mk (some 2) none (XI.k (XK.mov (Operand.tmp 13))), XS.mk (some 3) none (XI.k (XK.mov (Operand.const (Value.bool true))))]) (.ret)
def T31n2 : XC := .seq (.seq (.ops [XS.mk (some 4) none (XI.k (XK.mov (Operand.tmp 0))), XS.mk (some 5) none (XI.k (XK.cmp BinOp.lss IntKind.i64 (Operand.tmp 4) (Operand.const (Value.int IntKind.i64 1)))), XS.mk (some 6) none (XI.k (XK.mov (Operand.tmp 5))), XS.mk (some 7) (some (6, false)) (XI.k (XK.mov (Operand.tmp 0))), XS.mk (some 8) (some (6, false)) (XI.k (XK.cmp BinOp.geq IntKind.i64 (Operand.tmp 7) (Operand.const (Value.int IntKind.i64 19)))), XS.mk (some 9) none (XI.k (XK.pick (Operand.tmp 6) (Operand.const (Value.bool true)) (Operand.tmp 8)))]) (.cond (Operand.tmp 9) (.ref 0) (.skip))) (.ref 1)
def T31 : Nat → XC
  | 0 => T31n0
  | 1 => T31n1
  | 2 => T31n2
  | _ => .skip
theorem t31n0 : T31 0 = T31n0 := rfl
theorem t31n1 : T31 1 = T31n1 := rfl
theorem t31n2 : T31 2 = T31n2 := rfl
def X31 : XC := .seq (.ops [XS.mk (some 2) none (XI.k (XK.mov (Operand.const (Value.string (ByteArray.mk (Array.mk [])))))), XS.mk (some 3) none (XI.k (XK.mov (Operand.const (Value.bool false))))]) (.ref 2)
abbrev K31 : List Nat := [0, 2, 3, 9]
theorem n31 : Tryd.f31.ntmps = 14 := by kernel_rfl
theorem r31 : resT Tryd.f31.results.toList = some [2, 3] := by kernel_rfl
theorem x31 : cmpF Tryd.prog Tryd.f31 = some (expand T31 4 X31) := by kernel_rfl
def T32n0 : XC := .seq (.ops [XS.mk (some 5) none (XI.k (XK.mov (Operand.tmp 0))), XS.mk (some 6) none (XI.k (XK.mov (Operand.tmp 1))), XS.mk (some 7) none (XI.call 44 [Operand.tmp 5, Operand.tmp 6]), XS.mk (some 4) none (XI.k (XK.mov (Operand.tmp 7)))]) (.ret)
def T32 : Nat → XC
  | 0 => T32n0
  | _ => .skip
theorem t32n0 : T32 0 = T32n0 := rfl
def X32 : XC := .seq (.ops [XS.mk (some 4) none (XI.k (XK.mov (Operand.const (Value.int IntKind.i64 0))))]) (.ref 0)
abbrev K32 : List Nat := [0, 1, 4]
theorem n32 : Tryd.f32.ntmps = 8 := by kernel_rfl
theorem r32 : resT Tryd.f32.results.toList = some [4] := by kernel_rfl
theorem x32 : cmpF Tryd.prog Tryd.f32 = some (expand T32 2 X32) := by kernel_rfl
def T33n0 : XC := .seq (.ops [XS.mk (some 3) none (XI.k (XK.mov (Operand.tmp 0))), XS.mk (some 4) none (XI.k (XK.cmp BinOp.geq IntKind.i64 (Operand.tmp 3) (Operand.const (Value.int IntKind.i64 0)))), XS.mk (some 5) none (XI.k (XK.mov (Operand.tmp 4))), XS.mk (some 6) (some (5, true)) (XI.k (XK.mov (Operand.tmp 0))), XS.mk (some 7) (some (5, true)) (XI.k (XK.cmp BinOp.lss IntKind.i64 (Operand.tmp 6) (Operand.const (Value.int IntKind.i64 8)))), XS.mk (some 8) none (XI.k (XK.pick (Operand.tmp 5) (Operand.tmp 7) (Operand.const (Value.bool false)))), XS.mk (some 2) none (XI.k (XK.mov (Operand.tmp 8)))]) (.ret)
def T33 : Nat → XC
  | 0 => T33n0
  | _ => .skip
theorem t33n0 : T33 0 = T33n0 := rfl
def X33 : XC := .seq (.ops [XS.mk (some 2) none (XI.k (XK.mov (Operand.const (Value.bool false))))]) (.ref 0)
abbrev K33 : List Nat := [0, 2]
theorem n33 : Tryd.f33.ntmps = 9 := by kernel_rfl
theorem r33 : resT Tryd.f33.results.toList = some [2] := by kernel_rfl
theorem x33 : cmpF Tryd.prog Tryd.f33 = some (expand T33 2 X33) := by kernel_rfl
def T44n0 : XC := .seq (.ops [XS.mk (some 5) none (XI.k (XK.mov (Operand.tmp 0))), XS.mk (some 6) none (XI.k (XK.mov (Operand.tmp 1))), XS.mk (some 7) none (XI.k (XK.lib 0 [Operand.tmp 5, Operand.tmp 6])), XS.mk (some 4) none (XI.k (XK.mov (Operand.tmp 7)))]) (.ret)
def T44 : Nat → XC
  | 0 => T44n0
  | _ => .skip
theorem t44n0 : T44 0 = T44n0 := rfl
def X44 : XC := .seq (.ops [XS.mk (some 4) none (XI.k (XK.mov (Operand.const (Value.int IntKind.i64 0))))]) (.ref 0)
abbrev K44 : List Nat := [0, 1, 4]
theorem n44 : Tryd.f44.ntmps = 8 := by kernel_rfl
theorem r44 : resT Tryd.f44.results.toList = some [4] := by kernel_rfl
theorem x44 : cmpF Tryd.prog Tryd.f44 = some (expand T44 2 X44) := by kernel_rfl
end Go.Proofs.YtpoopljpodkdcaaDoor
