/- Printed by program: the small code of functions, and that it is theirs. -/
import Derived.Test.YtlbiogokpadaoaaGreatDoorSxStill
import Derived.Test.YtlbiogokpadaoaaGreatDoorProg
import Derived.KernelRfl
set_option linter.unusedSimpArgs false
set_option linter.unusedVariables false
set_option linter.unnecessarySimpa false
namespace Go.Proofs.YtlbiogokpadaoaaGreatDoor
open Go Go.Sx
set_option maxRecDepth 100000
def T21n0 : XC := .seq (.ops [.mk (some 2) none (.k (.mov (.const (.bool false))))]) .ret
def T21n1 : XC := .seq (.ops [.mk (some 24) none (.k (.mov (.tmp 3))), .mk (some 25) none (.k (.mov (.tmp 5))), .mk (some 26) none (.k (.ixT (.const (.string (ByteArray.mk (Array.mk [UInt8.ofNat 65, UInt8.ofNat 66, UInt8.ofNat 67])))) (.tmp 25))), .mk (some 27) none (.call 38 [.tmp 24, .tmp 26]), .mk (some 28) none (.k (.cmp .geq .i64 (.tmp 27) (.const (.int .i64 0)))), .mk (some 29) none (.k (.mov (.tmp 28))), .mk (some 30) (some (29, true)) (.k (.mov (.tmp 6))), .mk (some 31) (some (29, true)) (.k (.cmp .lss .i64 (.tmp 30) (.const (.int .i64 0)))), .mk (some 32) (some (29, true)) (.k (.mov (.tmp 31))), .mk (some 33) (some (32, false)) (.k (.mov (.tmp 6))), .mk (some 34) (some (32, false)) (.k (.cmp .geq .i64 (.tmp 33) (.const (.int .i64 8)))), .mk (some 35) (some (29, true)) (.k (.pick (.tmp 32) (.const (.bool true)) (.tmp 34))), .mk (some 36) none (.k (.pick (.tmp 29) (.tmp 35) (.const (.bool false))))]) (.cond (.tmp 36) (.ref 0) .skip)
def T21n2 : XC := .seq (.blk 1 (.seq (.ops [.mk (some 22) none (.k (.mov (.tmp 20))), .mk (some 23) none (.k (.ixA 3 1 false (.tmp 19) (.tmp 20))), .mk (some 5) none (.k (.mov (.tmp 22))), .mk (some 6) none (.k (.mov (.tmp 23)))]) (.ref 1))) (.ops [.mk (some 37) none (.k (.arith .add .i64 (.tmp 20) (.const (.int .i64 1)))), .mk (some 20) none (.k (.mov (.tmp 37)))])
def T21n3 : XC := .seq (.cond (.tmp 21) .skip (.exit 0)) (.ref 2)
def T21n4 : XC := .seq (.ops [.mk (some 21) none (.k (.cmp .lss .i64 (.tmp 20) (.const (.int .i64 3))))]) (.ref 3)
def T21n5 : XC := .seq (.ops [.mk (some 38) none (.k (.mov (.tmp 4))), .mk (some 2) none (.k (.mov (.tmp 38)))]) .ret
def T21n6 : XC := .seq (.seq (.ops [.mk (some 13) none (.k (.fld 1 (.tmp 1))), .mk (some 14) none (.k (.load [.int .i64] false (.tmp 13))), .mk (some 15) none (.k (.fld 2 (.tmp 1))), .mk (some 16) none (.k (.load [.int .i64] false (.tmp 15))), .mk (some 17) none (.k (.fld 3 (.tmp 1))), .mk (some 18) none (.k (.load [.int .i64] false (.tmp 17))), .mk (some 19) none (.k (.build [.int .i64 0, .int .i64 0, .int .i64 0] [(0, 1, .tmp 14), (1, 1, .tmp 16), (2, 1, .tmp 18)])), .mk (some 20) none (.k (.mov (.const (.int .i64 0))))]) (.blk 0 (.loop (.ref 4)))) (.ref 5)
def T21n7 : XC := .seq (.ops [.mk (some 8) none (.k (.fld 0 (.tmp 1))), .mk (some 9) none (.k (.load [.int .i64] false (.tmp 8))), .mk (some 10) none (.call 37 [.tmp 9]), .mk (some 7) none (.k (.mov (.tmp 10))), .mk (some 11) none (.k (.ext (.tmp 7) 0)), .mk (some 12) none (.k (.ext (.tmp 7) 1)), .mk (some 3) none (.k (.mov (.tmp 11))), .mk (some 4) none (.k (.mov (.tmp 12)))]) (.ref 6)
def T21 : Nat → XC
 | 0 => T21n0
 | 1 => T21n1
 | 2 => T21n2
 | 3 => T21n3
 | 4 => T21n4
 | 5 => T21n5
 | 6 => T21n6
 | 7 => T21n7
 | _ => .skip
theorem t21n0 : T21 0 = T21n0 := rfl
theorem t21n1 : T21 1 = T21n1 := rfl
theorem t21n2 : T21 2 = T21n2 := rfl
theorem t21n3 : T21 3 = T21n3 := rfl
theorem t21n4 : T21 4 = T21n4 := rfl
theorem t21n5 : T21 5 = T21n5 := rfl
theorem t21n6 : T21 6 = T21n6 := rfl
theorem t21n7 : T21 7 = T21n7 := rfl
def X21 : XC := .seq (.ops [.mk (some 1) none (.k (.box 41 5 (.tmp 0))), .mk (some 2) none (.k (.mov (.const (.bool false))))]) (.ref 7)
abbrev K21 : List Nat := [0, 1, 2, 3, 4, 5, 6, 19, 20, 21, 36]
theorem n21 : Tryz.f21.ntmps = 39 := by kernel_rfl
theorem r21 : resT Tryz.f21.results.toList = some [2] := by kernel_rfl
theorem x21 : cmpF Tryz.prog Tryz.f21 = some (expand T21 9 X21) := by kernel_rfl
def T37n0 : XC := .seq (.ops [.mk (some 2) none (.k (.mov (.const (.string (ByteArray.mk (Array.mk [])))))), .mk (some 3) none (.k (.mov (.const (.bool false))))]) .ret
def T37n1 : XC := .seq (.ops [.mk (some 10) none (.k (.mov (.tmp 0))), .mk (some 11) none (.k (.idxA 19 2 (.global 0) (.tmp 10))), .mk (some 12) none (.k (.fld 1 (.tmp 11))), .mk (some 13) none (.k (.load [.str] false (.tmp 12))), .mk (some 2) none (.k (.mov (.tmp 13))), .mk (some 3) none (.k (.mov (.const (.bool true))))]) .ret
def T37n2 : XC := .seq (.seq (.ops [.mk (some 4) none (.k (.mov (.tmp 0))), .mk (some 5) none (.k (.cmp .lss .i64 (.tmp 4) (.const (.int .i64 1)))), .mk (some 6) none (.k (.mov (.tmp 5))), .mk (some 7) (some (6, false)) (.k (.mov (.tmp 0))), .mk (some 8) (some (6, false)) (.k (.cmp .geq .i64 (.tmp 7) (.const (.int .i64 19)))), .mk (some 9) none (.k (.pick (.tmp 6) (.const (.bool true)) (.tmp 8)))]) (.cond (.tmp 9) (.ref 0) .skip)) (.ref 1)
def T37 : Nat → XC
 | 0 => T37n0
 | 1 => T37n1
 | 2 => T37n2
 | _ => .skip
theorem t37n0 : T37 0 = T37n0 := rfl
theorem t37n1 : T37 1 = T37n1 := rfl
theorem t37n2 : T37 2 = T37n2 := rfl
def X37 : XC := .seq (.ops [.mk (some 2) none (.k (.mov (.const (.string (ByteArray.mk (Array.mk [])))))), .mk (some 3) none (.k (.mov (.const (.bool false))))]) (.ref 2)
abbrev K37 : List Nat := [0, 2, 3, 9]
theorem n37 : Tryz.f37.ntmps = 14 := by kernel_rfl
theorem r37 : resT Tryz.f37.results.toList = some [2, 3] := by kernel_rfl
theorem x37 : cmpF Tryz.prog Tryz.f37 = some (expand T37 4 X37) := by kernel_rfl
def T38n0 : XC := .seq (.ops [.mk (some 5) none (.k (.mov (.tmp 0))), .mk (some 6) none (.k (.mov (.tmp 1))), .mk (some 7) none (.call 71 [.tmp 5, .tmp 6]), .mk (some 4) none (.k (.mov (.tmp 7)))]) .ret
def T38 : Nat → XC
 | 0 => T38n0
 | _ => .skip
theorem t38n0 : T38 0 = T38n0 := rfl
def X38 : XC := .seq (.ops [.mk (some 4) none (.k (.mov (.const (.int .i64 0))))]) (.ref 0)
abbrev K38 : List Nat := [0, 1, 4]
theorem n38 : Tryz.f38.ntmps = 8 := by kernel_rfl
theorem r38 : resT Tryz.f38.results.toList = some [4] := by kernel_rfl
theorem x38 : cmpF Tryz.prog Tryz.f38 = some (expand T38 2 X38) := by kernel_rfl
def T71n0 : XC := .seq (.ops [.mk (some 5) none (.k (.mov (.tmp 0))), .mk (some 6) none (.k (.mov (.tmp 1))), .mk (some 7) none (.k (.lib 0 [.tmp 5, .tmp 6])), .mk (some 4) none (.k (.mov (.tmp 7)))]) .ret
def T71 : Nat → XC
 | 0 => T71n0
 | _ => .skip
theorem t71n0 : T71 0 = T71n0 := rfl
def X71 : XC := .seq (.ops [.mk (some 4) none (.k (.mov (.const (.int .i64 0))))]) (.ref 0)
abbrev K71 : List Nat := [0, 1, 4]
theorem n71 : Tryz.f71.ntmps = 8 := by kernel_rfl
theorem r71 : resT Tryz.f71.results.toList = some [4] := by kernel_rfl
theorem x71 : cmpF Tryz.prog Tryz.f71 = some (expand T71 2 X71) := by kernel_rfl
def T119n0 : XC := .seq (.ops [.mk (some 9) none (.k (.build [.string (ByteArray.mk (Array.mk [])), .bool false, .bool false, .bool false, .bool false] [(0, 1, .const (.string (ByteArray.mk (Array.mk [UInt8.ofNat 104, UInt8.ofNat 97, UInt8.ofNat 108, UInt8.ofNat 116]))))])), .mk none none (.k (.store 5 (.tmp 2) (.tmp 9))), .mk (some 3) none (.k (.mov (.const (.bool true))))]) .ret
def T119n1 : XC := .seq (.ops [.mk (some 12) none (.k (.build [.string (ByteArray.mk (Array.mk [])), .bool false, .bool false, .bool false, .bool false] [(0, 1, .const (.string (ByteArray.mk (Array.mk [UInt8.ofNat 115, UInt8.ofNat 101, UInt8.ofNat 116])))), (1, 1, .const (.bool true)), (4, 1, .const (.bool true))])), .mk none none (.k (.store 5 (.tmp 2) (.tmp 12))), .mk (some 3) none (.k (.mov (.const (.bool true))))]) .ret
def T119n2 : XC := .seq (.ops [.mk (some 15) none (.k (.build [.string (ByteArray.mk (Array.mk [])), .bool false, .bool false, .bool false, .bool false] [(0, 1, .const (.string (ByteArray.mk (Array.mk [UInt8.ofNat 109, UInt8.ofNat 111, UInt8.ofNat 118])))), (1, 1, .const (.bool true)), (2, 1, .const (.bool true))])), .mk none none (.k (.store 5 (.tmp 2) (.tmp 15))), .mk (some 3) none (.k (.mov (.const (.bool true))))]) .ret
def T119n3 : XC := .cond (.tmp 16) .skip (.ops [.mk (some 23) none (.k (.cmp .eql .i64 (.tmp 6) (.const (.int .i64 10)))), .mk (some 16) none (.k (.mov (.tmp 23)))])
def T119n4 : XC := .seq (.ops [.mk (some 22) none (.k (.cmp .eql .i64 (.tmp 6) (.const (.int .i64 9)))), .mk (some 16) none (.k (.mov (.tmp 22)))]) (.ref 3)
def T119n5 : XC := .seq (.ops [.mk (some 21) none (.k (.cmp .eql .i64 (.tmp 6) (.const (.int .i64 8)))), .mk (some 16) none (.k (.mov (.tmp 21)))]) (.cond (.tmp 16) .skip (.ref 4))
def T119n6 : XC := .seq (.ops [.mk (some 20) none (.k (.cmp .eql .i64 (.tmp 6) (.const (.int .i64 7)))), .mk (some 16) none (.k (.mov (.tmp 20)))]) (.cond (.tmp 16) .skip (.ref 5))
def T119n7 : XC := .seq (.ops [.mk (some 19) none (.k (.cmp .eql .i64 (.tmp 6) (.const (.int .i64 6)))), .mk (some 16) none (.k (.mov (.tmp 19)))]) (.cond (.tmp 16) .skip (.ref 6))
def T119n8 : XC := .seq (.ops [.mk (some 18) none (.k (.cmp .eql .i64 (.tmp 6) (.const (.int .i64 5)))), .mk (some 16) none (.k (.mov (.tmp 18)))]) (.cond (.tmp 16) .skip (.ref 7))
def T119n9 : XC := .seq (.ops [.mk (some 25) none (.k (.mov (.tmp 4))), .mk (some 26) none (.k (.mov (.tmp 0))), .mk (some 27) none (.k (.arith .sub .i64 (.tmp 26) (.const (.int .i64 4)))), .mk (some 28) none (.k (.idx 1 (.tmp 25) (.tmp 27))), .mk (some 29) none (.k (.load [.str] false (.tmp 28))), .mk (some 30) none (.k (.build [.string (ByteArray.mk (Array.mk [])), .bool false, .bool false, .bool false, .bool false] [(0, 1, .tmp 29), (1, 1, .const (.bool true)), (2, 1, .const (.bool true)), (3, 1, .const (.bool true))])), .mk none none (.k (.store 5 (.tmp 2) (.tmp 30))), .mk (some 3) none (.k (.mov (.const (.bool true))))]) .ret
def T119n10 : XC := .seq (.ops [.mk (some 24) none (.k (.buildS 9 7 1 [.string (ByteArray.mk (Array.mk []))] [(0, .const (.string (ByteArray.mk (Array.mk [UInt8.ofNat 97, UInt8.ofNat 100, UInt8.ofNat 100])))), (1, .const (.string (ByteArray.mk (Array.mk [UInt8.ofNat 115, UInt8.ofNat 117, UInt8.ofNat 98])))), (2, .const (.string (ByteArray.mk (Array.mk [UInt8.ofNat 109, UInt8.ofNat 117, UInt8.ofNat 108])))), (3, .const (.string (ByteArray.mk (Array.mk [UInt8.ofNat 97, UInt8.ofNat 110, UInt8.ofNat 100])))), (4, .const (.string (ByteArray.mk (Array.mk [UInt8.ofNat 120, UInt8.ofNat 111, UInt8.ofNat 114])))), (5, .const (.string (ByteArray.mk (Array.mk [UInt8.ofNat 115, UInt8.ofNat 104, UInt8.ofNat 108])))), (6, .const (.string (ByteArray.mk (Array.mk [UInt8.ofNat 115, UInt8.ofNat 104, UInt8.ofNat 114]))))])), .mk (some 4) none (.k (.mov (.tmp 24)))]) (.ref 9)
def T119n11 : XC := .cond (.tmp 31) .skip (.ops [.mk (some 36) none (.k (.cmp .eql .i64 (.tmp 6) (.const (.int .i64 16)))), .mk (some 31) none (.k (.mov (.tmp 36)))])
def T119n12 : XC := .seq (.ops [.mk (some 35) none (.k (.cmp .eql .i64 (.tmp 6) (.const (.int .i64 15)))), .mk (some 31) none (.k (.mov (.tmp 35)))]) (.ref 11)
def T119n13 : XC := .seq (.ops [.mk (some 34) none (.k (.cmp .eql .i64 (.tmp 6) (.const (.int .i64 14)))), .mk (some 31) none (.k (.mov (.tmp 34)))]) (.cond (.tmp 31) .skip (.ref 12))
def T119n14 : XC := .seq (.ops [.mk (some 33) none (.k (.cmp .eql .i64 (.tmp 6) (.const (.int .i64 12)))), .mk (some 31) none (.k (.mov (.tmp 33)))]) (.cond (.tmp 31) .skip (.ref 13))
def T119n15 : XC := .seq (.ops [.mk (some 38) none (.k (.mov (.tmp 5))), .mk (some 39) none (.k (.mov (.tmp 0))), .mk (some 40) none (.k (.arith .sub .i64 (.tmp 39) (.const (.int .i64 11)))), .mk (some 41) none (.k (.idx 1 (.tmp 38) (.tmp 40))), .mk (some 42) none (.k (.load [.str] false (.tmp 41))), .mk (some 43) none (.k (.build [.string (ByteArray.mk (Array.mk [])), .bool false, .bool false, .bool false, .bool false] [(0, 1, .tmp 42), (1, 1, .const (.bool true)), (2, 1, .const (.bool true)), (4, 1, .const (.bool true))])), .mk none none (.k (.store 5 (.tmp 2) (.tmp 43))), .mk (some 3) none (.k (.mov (.const (.bool true))))]) .ret
def T119n16 : XC := .seq (.ops [.mk (some 37) none (.k (.buildS 9 6 1 [.string (ByteArray.mk (Array.mk []))] [(0, .const (.string (ByteArray.mk (Array.mk [UInt8.ofNat 108, UInt8.ofNat 111, UInt8.ofNat 97, UInt8.ofNat 100])))), (1, .const (.string (ByteArray.mk (Array.mk [UInt8.ofNat 115, UInt8.ofNat 116, UInt8.ofNat 111, UInt8.ofNat 114, UInt8.ofNat 101])))), (2, .const (.string (ByteArray.mk (Array.mk [])))), (3, .const (.string (ByteArray.mk (Array.mk [UInt8.ofNat 101, UInt8.ofNat 113])))), (4, .const (.string (ByteArray.mk (Array.mk [UInt8.ofNat 110, UInt8.ofNat 101])))), (5, .const (.string (ByteArray.mk (Array.mk [UInt8.ofNat 108, UInt8.ofNat 116]))))])), .mk (some 5) none (.k (.mov (.tmp 37)))]) (.ref 15)
def T119n17 : XC := .seq (.ops [.mk (some 46) none (.k (.build [.string (ByteArray.mk (Array.mk [])), .bool false, .bool false, .bool false, .bool false] [(0, 1, .const (.string (ByteArray.mk (Array.mk [UInt8.ofNat 106, UInt8.ofNat 117, UInt8.ofNat 109, UInt8.ofNat 112])))), (4, 1, .const (.bool true))])), .mk none none (.k (.store 5 (.tmp 2) (.tmp 46))), .mk (some 3) none (.k (.mov (.const (.bool true))))]) .ret
def T119n18 : XC := .seq (.ops [.mk (some 49) none (.k (.build [.string (ByteArray.mk (Array.mk [])), .bool false, .bool false, .bool false, .bool false] [(0, 1, .const (.string (ByteArray.mk (Array.mk [UInt8.ofNat 98, UInt8.ofNat 101, UInt8.ofNat 103, UInt8.ofNat 105, UInt8.ofNat 110]))))])), .mk none none (.k (.store 5 (.tmp 2) (.tmp 49))), .mk (some 3) none (.k (.mov (.const (.bool true))))]) .ret
def T119n19 : XC := .seq (.ops [.mk (some 52) none (.k (.build [.string (ByteArray.mk (Array.mk [])), .bool false, .bool false, .bool false, .bool false] [(0, 1, .const (.string (ByteArray.mk (Array.mk [UInt8.ofNat 101, UInt8.ofNat 110, UInt8.ofNat 100]))))])), .mk none none (.k (.store 5 (.tmp 2) (.tmp 52))), .mk (some 3) none (.k (.mov (.const (.bool true))))]) .ret
def T119n20 : XC := .seq (.ops [.mk (some 51) none (.k (.cmp .eql .i64 (.tmp 6) (.const (.int .i64 18)))), .mk (some 50) none (.k (.mov (.tmp 51)))]) (.cond (.tmp 50) (.ref 19) .skip)
def T119n21 : XC := .seq (.ops [.mk (some 48) none (.k (.cmp .eql .i64 (.tmp 6) (.const (.int .i64 17)))), .mk (some 47) none (.k (.mov (.tmp 48)))]) (.cond (.tmp 47) (.ref 18) (.ref 20))
def T119n22 : XC := .seq (.ops [.mk (some 45) none (.k (.cmp .eql .i64 (.tmp 6) (.const (.int .i64 13)))), .mk (some 44) none (.k (.mov (.tmp 45)))]) (.cond (.tmp 44) (.ref 17) (.ref 21))
def T119n23 : XC := .seq (.seq (.ops [.mk (some 32) none (.k (.cmp .eql .i64 (.tmp 6) (.const (.int .i64 11)))), .mk (some 31) none (.k (.mov (.tmp 32)))]) (.cond (.tmp 31) .skip (.ref 14))) (.cond (.tmp 31) (.ref 16) (.ref 22))
def T119n24 : XC := .seq (.seq (.ops [.mk (some 17) none (.k (.cmp .eql .i64 (.tmp 6) (.const (.int .i64 4)))), .mk (some 16) none (.k (.mov (.tmp 17)))]) (.cond (.tmp 16) .skip (.ref 8))) (.cond (.tmp 16) (.ref 10) (.ref 23))
def T119n25 : XC := .seq (.ops [.mk (some 14) none (.k (.cmp .eql .i64 (.tmp 6) (.const (.int .i64 3)))), .mk (some 13) none (.k (.mov (.tmp 14)))]) (.cond (.tmp 13) (.ref 2) (.ref 24))
def T119n26 : XC := .seq (.ops [.mk (some 11) none (.k (.cmp .eql .i64 (.tmp 6) (.const (.int .i64 2)))), .mk (some 10) none (.k (.mov (.tmp 11)))]) (.cond (.tmp 10) (.ref 1) (.ref 25))
def T119n27 : XC := .blk 0 (.seq (.ops [.mk (some 8) none (.k (.cmp .eql .i64 (.tmp 6) (.const (.int .i64 1)))), .mk (some 7) none (.k (.mov (.tmp 8)))]) (.cond (.tmp 7) (.ref 0) (.ref 26)))
def T119n28 : XC := .seq (.ops [.mk (some 53) none (.k (.build [.string (ByteArray.mk (Array.mk [])), .bool false, .bool false, .bool false, .bool false] [])), .mk none none (.k (.store 5 (.tmp 2) (.tmp 53))), .mk (some 3) none (.k (.mov (.const (.bool false))))]) .ret
def T119n29 : XC := .seq (.seq (.ops [.mk (some 6) none (.k (.mov (.tmp 0)))]) (.ref 27)) (.ref 28)
def T119 : Nat → XC
 | 0 => T119n0
 | 1 => T119n1
 | 2 => T119n2
 | 3 => T119n3
 | 4 => T119n4
 | 5 => T119n5
 | 6 => T119n6
 | 7 => T119n7
 | 8 => T119n8
 | 9 => T119n9
 | 10 => T119n10
 | 11 => T119n11
 | 12 => T119n12
 | 13 => T119n13
 | 14 => T119n14
 | 15 => T119n15
 | 16 => T119n16
 | 17 => T119n17
 | 18 => T119n18
 | 19 => T119n19
 | 20 => T119n20
 | 21 => T119n21
 | 22 => T119n22
 | 23 => T119n23
 | 24 => T119n24
 | 25 => T119n25
 | 26 => T119n26
 | 27 => T119n27
 | 28 => T119n28
 | 29 => T119n29
 | _ => .skip
theorem t119n0 : T119 0 = T119n0 := rfl
theorem t119n1 : T119 1 = T119n1 := rfl
theorem t119n2 : T119 2 = T119n2 := rfl
theorem t119n3 : T119 3 = T119n3 := rfl
theorem t119n4 : T119 4 = T119n4 := rfl
theorem t119n5 : T119 5 = T119n5 := rfl
theorem t119n6 : T119 6 = T119n6 := rfl
theorem t119n7 : T119 7 = T119n7 := rfl
theorem t119n8 : T119 8 = T119n8 := rfl
theorem t119n9 : T119 9 = T119n9 := rfl
theorem t119n10 : T119 10 = T119n10 := rfl
theorem t119n11 : T119 11 = T119n11 := rfl
theorem t119n12 : T119 12 = T119n12 := rfl
theorem t119n13 : T119 13 = T119n13 := rfl
theorem t119n14 : T119 14 = T119n14 := rfl
theorem t119n15 : T119 15 = T119n15 := rfl
theorem t119n16 : T119 16 = T119n16 := rfl
theorem t119n17 : T119 17 = T119n17 := rfl
theorem t119n18 : T119 18 = T119n18 := rfl
theorem t119n19 : T119 19 = T119n19 := rfl
theorem t119n20 : T119 20 = T119n20 := rfl
theorem t119n21 : T119 21 = T119n21 := rfl
theorem t119n22 : T119 22 = T119n22 := rfl
theorem t119n23 : T119 23 = T119n23 := rfl
theorem t119n24 : T119 24 = T119n24 := rfl
theorem t119n25 : T119 25 = T119n25 := rfl
theorem t119n26 : T119 26 = T119n26 := rfl
theorem t119n27 : T119 27 = T119n27 := rfl
theorem t119n28 : T119 28 = T119n28 := rfl
theorem t119n29 : T119 29 = T119n29 := rfl
def X119 : XC := .seq (.ops [.mk (some 2) none (.k (.alloc 172 [.string (ByteArray.mk (Array.mk [])), .bool false, .bool false, .bool false, .bool false])), .mk (some 3) none (.k (.mov (.const (.bool false))))]) (.ref 29)
abbrev K119 : List Nat := [0, 2, 3, 4, 5, 6, 7, 10, 13, 16, 31, 44, 47, 50]
theorem n119 : Tryz.f119.ntmps = 54 := by kernel_rfl
theorem r119 : rvOf Tryz.prog Tryz.f119.results.toList = some [RV.cell 2 5 true, RV.tmp 3] := by kernel_rfl
theorem x119 : cmpF Tryz.prog Tryz.f119 = some (expand T119 31 X119) := by kernel_rfl
end Go.Proofs.YtlbiogokpadaoaaGreatDoor
