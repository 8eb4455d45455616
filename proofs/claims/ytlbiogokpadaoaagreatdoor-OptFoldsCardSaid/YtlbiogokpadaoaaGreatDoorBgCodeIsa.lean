/- Printed by program: the small code of functions, and that it is theirs. -/
import Derived.Test.YtlbiogokpadaoaaGreatDoorSxStill
import Derived.Test.YtlbiogokpadaoaaGreatDoorProg
import Derived.KernelRfl
set_option linter.unusedSimpArgs false
set_option linter.unusedVariables false
set_option linter.unnecessarySimpa false
namespace Go.Proofs.YtlbiogokpadaoaaGreatDoor
open Go Go.Sx
set_option maxRecDepth 100000
def T21n0 : XC := .seq (.ops [.mk (some 2) none (.k (.mov (.const (.bool false))))]) .ret
def T21n1 : XC := .seq (.ops [.mk (some 24) none (.k (.mov (.tmp 3))), .mk (some 25) none (.k (.mov (.tmp 5))), .mk (some 26) none (.k (.ixT (.const (.string (ByteArray.mk (Array.mk [UInt8.ofNat 65, UInt8.ofNat 66, UInt8.ofNat 67])))) (.tmp 25))), .mk (some 27) none (.call 38 [.tmp 24, .tmp 26]), .mk (some 28) none (.k (.cmp .geq .i64 (.tmp 27) (.const (.int .i64 0)))), .mk (some 29) none (.k (.mov (.tmp 28))), .mk (some 30) (some (29, true)) (.k (.mov (.tmp 6))), .mk (some 31) (some (29, true)) (.k (.cmp .lss .i64 (.tmp 30) (.const (.int .i64 0)))), .mk (some 32) (some (29, true)) (.k (.mov (.tmp 31))), .mk (some 33) (some (32, false)) (.k (.mov (.tmp 6))), .mk (some 34) (some (32, false)) (.k (.cmp .geq .i64 (.tmp 33) (.const (.int .i64 8)))), .mk (some 35) (some (29, true)) (.k (.pick (.tmp 32) (.const (.bool true)) (.tmp 34))), .mk (some 36) none (.k (.pick (.tmp 29) (.tmp 35) (.const (.bool false))))]) (.cond (.tmp 36) (.ref 0) .skip)
def T21n2 : XC := .seq (.blk 1 (.seq (.ops [.mk (some 22) none (.k (.mov (.tmp 20))), .mk (some 23) none (.k (.ixA 3 1 false (.tmp 19) (.tmp 20))), .mk (some 5) none (.k (.mov (.tmp 22))), .mk (some 6) none (.k (.mov (.tmp 23)))]) (.ref 1))) (.ops [.mk (some 37) none (.k (.arith .add .i64 (.tmp 20) (.const (.int .i64 1)))), .mk (some 20) none (.k (.mov (.tmp 37)))])
def T21n3 : XC := .seq (.cond (.tmp 21) .skip (.exit 0)) (.ref 2)
def T21n4 : XC := .seq (.ops [.mk (some 21) none (.k (.cmp .lss .i64 (.tmp 20) (.const (.int .i64 3))))]) (.ref 3)
def T21n5 : XC := .seq (.ops [.mk (some 38) none (.k (.mov (.tmp 4))), .mk (some 2) none (.k (.mov (.tmp 38)))]) .ret
def T21n6 : XC := .seq (.seq (.ops [.mk (some 13) none (.k (.fld 1 (.tmp 1))), .mk (some 14) none (.k (.load [.int .i64] false (.tmp 13))), .mk (some 15) none (.k (.fld 2 (.tmp 1))), .mk (some 16) none (.k (.load [.int .i64] false (.tmp 15))), .mk (some 17) none (.k (.fld 3 (.tmp 1))), .mk (some 18) none (.k (.load [.int .i64] false (.tmp 17))), .mk (some 19) none (.k (.build [.int .i64 0, .int .i64 0, .int .i64 0] [(0, 1, .tmp 14), (1, 1, .tmp 16), (2, 1, .tmp 18)])), .mk (some 20) none (.k (.mov (.const (.int .i64 0))))]) (.blk 0 (.loop (.ref 4)))) (.ref 5)
def T21n7 : XC := .seq (.ops [.mk (some 8) none (.k (.fld 0 (.tmp 1))), .mk (some 9) none (.k (.load [.int .i64] false (.tmp 8))), .mk (some 10) none (.call 37 [.tmp 9]), .mk (some 7) none (.k (.mov (.tmp 10))), .mk (some 11) none (.k (.ext (.tmp 7) 0)), .mk (some 12) none (.k (.ext (.tmp 7) 1)), .mk (some 3) none (.k (.mov (.tmp 11))), .mk (some 4) none (.k (.mov (.tmp 12)))]) (.ref 6)
def T21 : Nat → XC
 | 0 => T21n0
 | 1 => T21n1
 | 2 => T21n2
 | 3 => T21n3
 | 4 => T21n4
 | 5 => T21n5
 | 6 => T21n6
 | 7 => T21n7
 | _ => .skip
theorem t21n0 : T21 0 = T21n0 := rfl
theorem t21n1 : T21 1 = T21n1 := rfl
theorem t21n2 : T21 2 = T21n2 := rfl
theorem t21n3 : T21 3 = T21n3 := rfl
theorem t21n4 : T21 4 = T21n4 := rfl
theorem t21n5 : T21 5 = T21n5 := rfl
theorem t21n6 : T21 6 = T21n6 := rfl
theorem t21n7 : T21 7 = T21n7 := rfl
def X21 : XC := .seq (.ops [.mk (some 1) none (.k (.box 41 5 (.tmp 0))), .mk (some 2) none (.k (.mov (.const (.bool false))))]) (.ref 7)
abbrev K21 : List Nat := [0, 1, 2, 3, 4, 5, 6, 19, 20, 21, 36]
theorem n21 : Tryz.f21.ntmps = 39 := by kernel_rfl
theorem r21 : resT Tryz.f21.results.toList = some [2] := by kernel_rfl
theorem x21 : cmpF Tryz.prog Tryz.f21 = some (expand T21 9 X21) := by kernel_rfl
def T37n0 : XC := .seq (.ops [.mk (some 2) none (.k (.mov (.const (.string (ByteArray.mk (Array.mk [])))))), .mk (some 3) none (.k (.mov (.const (.bool false))))]) .ret
def T37n1 : XC := .seq (.ops [.mk (some 10) none (.k (.mov (.tmp 0))), .mk (some 11) none (.k (.idxA 19 2 (.global 0) (.tmp 10))), .mk (some 12) none (.k (.fld 1 (.tmp 11))), .mk (some 13) none (.k (.load [.str] false (.tmp 12))), .mk (some 2) none (.k (.mov (.tmp 13))), .mk (some 3) none (.k (.mov (.const (.bool true))))]) .ret
def T37n2 : XC := .seq (.seq (.ops [.mk (some 4) none (.k (.mov (.tmp 0))), .mk (some 5) none (.k (.cmp .lss .i64 (.tmp 4) (.const (.int .i64 1)))), .mk (some 6) none (.k (.mov (.tmp 5))), .mk (some 7) (some (6, false)) (.k (.mov (.tmp 0))), .mk (some 8) (some (6, false)) (.k (.cmp .geq .i64 (.tmp 7) (.const (.int .i64 19)))), .mk (some 9) none (.k (.pick (.tmp 6) (.const (.bool true)) (.tmp 8)))]) (.cond (.tmp 9) (.ref 0) .skip)) (.ref 1)
def T37 : Nat → XC
 | 0 => T37n0
 | 1 => T37n1
 | 2 => T37n2
 | _ => .skip
theorem t37n0 : T37 0 = T37n0 := rfl
theorem t37n1 : T37 1 = T37n1 := rfl
theorem t37n2 : T37 2 = T37n2 := rfl
def X37 : XC := .seq (.ops [.mk (some 2) none (.k (.mov (.const (.string (ByteArray.mk (Array.mk [])))))), .mk (some 3) none (.k (.mov (.const (.bool false))))]) (.ref 2)
abbrev K37 : List Nat := [0, 2, 3, 9]
theorem n37 : Tryz.f37.ntmps = 14 := by kernel_rfl
theorem r37 : resT Tryz.f37.results.toList = some [2, 3] := by kernel_rfl
theorem x37 : cmpF Tryz.prog Tryz.f37 = some (expand T37 4 X37) := by kernel_rfl
def T38n0 : XC := .seq (.ops [.mk (some 5) none (.k (.mov (.tmp 0))), .mk (some 6) none (.k (.mov (.tmp 1))), .mk (some 7) none (.call 71 [.tmp 5, .tmp 6]), .mk (some 4) none (.k (.mov (.tmp 7)))]) .ret
def T38 : Nat → XC
 | 0 => T38n0
 | _ => .skip
theorem t38n0 : T38 0 = T38n0 := rfl
def X38 : XC := .seq (.ops [.mk (some 4) none (.k (.mov (.const (.int .i64 0))))]) (.ref 0)
abbrev K38 : List Nat := [0, 1, 4]
theorem n38 : Tryz.f38.ntmps = 8 := by kernel_rfl
theorem r38 : resT Tryz.f38.results.toList = some [4] := by kernel_rfl
theorem x38 : cmpF Tryz.prog Tryz.f38 = some (expand T38 2 X38) := by kernel_rfl
def T71n0 : XC := .seq (.ops [.mk (some 5) none (.k (.mov (.tmp 0))), .mk (some 6) none (.k (.mov (.tmp 1))), .mk (some 7) none (.k (.lib 0 [.tmp 5, .tmp 6])), .mk (some 4) none (.k (.mov (.tmp 7)))]) .ret
def T71 : Nat → XC
 | 0 => T71n0
 | _ => .skip
theorem t71n0 : T71 0 = T71n0 := rfl
def X71 : XC := .seq (.ops [.mk (some 4) none (.k (.mov (.const (.int .i64 0))))]) (.ref 0)
abbrev K71 : List Nat := [0, 1, 4]
theorem n71 : Tryz.f71.ntmps = 8 := by kernel_rfl
theorem r71 : resT Tryz.f71.results.toList = some [4] := by kernel_rfl
theorem x71 : cmpF Tryz.prog Tryz.f71 = some (expand T71 2 X71) := by kernel_rfl
def T90n0 : XC := .seq (.ops [.mk (some 11) none (.k (.mov (.tmp 4))), .mk (some 12) none (.k (.mov (.tmp 11))), .mk (some 13) (some (12, true)) (.k (.fld 1 (.tmp 3))), .mk (some 14) (some (12, true)) (.k (.load [.bool] false (.tmp 13))), .mk (some 15) (some (12, true)) (.k (.not (.tmp 14))), .mk (some 16) (some (12, true)) (.k (.mov (.tmp 15))), .mk (some 17) (some (16, false)) (.k (.fld 1 (.tmp 1))), .mk (some 18) (some (16, false)) (.k (.load [.int .i64] false (.tmp 17))), .mk (some 19) (some (16, false)) (.call 120 [.tmp 18]), .mk (some 20) (some (12, true)) (.k (.pick (.tmp 16) (.const (.bool true)) (.tmp 19))), .mk (some 21) none (.k (.pick (.tmp 12) (.tmp 20) (.const (.bool false)))), .mk (some 22) none (.k (.mov (.tmp 21))), .mk (some 23) (some (22, true)) (.k (.fld 2 (.tmp 3))), .mk (some 24) (some (22, true)) (.k (.load [.bool] false (.tmp 23))), .mk (some 25) (some (22, true)) (.k (.not (.tmp 24))), .mk (some 26) (some (22, true)) (.k (.mov (.tmp 25))), .mk (some 27) (some (26, false)) (.k (.fld 2 (.tmp 1))), .mk (some 28) (some (26, false)) (.k (.load [.int .i64] false (.tmp 27))), .mk (some 29) (some (26, false)) (.call 120 [.tmp 28]), .mk (some 30) (some (22, true)) (.k (.pick (.tmp 26) (.const (.bool true)) (.tmp 29))), .mk (some 31) none (.k (.pick (.tmp 22) (.tmp 30) (.const (.bool false)))), .mk (some 32) none (.k (.mov (.tmp 31))), .mk (some 33) (some (32, true)) (.k (.fld 3 (.tmp 3))), .mk (some 34) (some (32, true)) (.k (.load [.bool] false (.tmp 33))), .mk (some 35) (some (32, true)) (.k (.not (.tmp 34))), .mk (some 36) (some (32, true)) (.k (.mov (.tmp 35))), .mk (some 37) (some (36, false)) (.k (.fld 3 (.tmp 1))), .mk (some 38) (some (36, false)) (.k (.load [.int .i64] false (.tmp 37))), .mk (some 39) (some (36, false)) (.call 120 [.tmp 38]), .mk (some 40) (some (32, true)) (.k (.pick (.tmp 36) (.const (.bool true)) (.tmp 39))), .mk (some 41) none (.k (.pick (.tmp 32) (.tmp 40) (.const (.bool false)))), .mk (some 2) none (.k (.mov (.tmp 41)))]) .ret
def T90n1 : XC := .seq (.ops [.mk (some 6) none (.k (.fld 0 (.tmp 1))), .mk (some 7) none (.k (.load [.int .i64] false (.tmp 6))), .mk (some 8) none (.call 119 [.tmp 7]), .mk (some 5) none (.k (.mov (.tmp 8))), .mk (some 9) none (.k (.ext (.tmp 5) 0)), .mk (some 10) none (.k (.ext (.tmp 5) 1)), .mk (some 3) none (.k (.alloc 172 [.string (ByteArray.mk (Array.mk [])), .bool false, .bool false, .bool false, .bool false])), .mk none none (.k (.store 5 (.tmp 3) (.tmp 9))), .mk (some 4) none (.k (.mov (.tmp 10)))]) (.ref 0)
def T90 : Nat → XC
 | 0 => T90n0
 | 1 => T90n1
 | _ => .skip
theorem t90n0 : T90 0 = T90n0 := rfl
theorem t90n1 : T90 1 = T90n1 := rfl
def X90 : XC := .seq (.ops [.mk (some 1) none (.k (.box 41 5 (.tmp 0))), .mk (some 2) none (.k (.mov (.const (.bool false))))]) (.ref 1)
abbrev K90 : List Nat := [0, 1, 2, 3, 4]
theorem n90 : Tryz.f90.ntmps = 42 := by kernel_rfl
theorem r90 : resT Tryz.f90.results.toList = some [2] := by kernel_rfl
theorem x90 : cmpF Tryz.prog Tryz.f90 = some (expand T90 3 X90) := by kernel_rfl
def T119n0 : XC := .seq (.ops [.mk (some 9) none (.k (.build [.string (ByteArray.mk (Array.mk [])), .bool false, .bool false, .bool false, .bool false] [(0, 1, .const (.string (ByteArray.mk (Array.mk [UInt8.ofNat 104, UInt8.ofNat 97, UInt8.ofNat 108, UInt8.ofNat 116]))))])), .mk none none (.k (.store 5 (.tmp 2) (.tmp 9))), .mk (some 3) none (.k (.mov (.const (.bool true))))]) .ret
def T119n1 : XC := .seq (.ops [.mk (some 12) none (.k (.build [.string (ByteArray.mk (Array.mk [])), .bool false, .bool false, .bool false, .bool false] [(0, 1, .const (.string (ByteArray.mk (Array.mk [UInt8.ofNat 115, UInt8.ofNat 101, UInt8.ofNat 116])))), (1, 1, .const (.bool true)), (4, 1, .const (.bool true))])), .mk none none (.k (.store 5 (.tmp 2) (.tmp 12))), .mk (some 3) none (.k (.mov (.const (.bool true))))]) .ret
def T119n2 : XC := .seq (.ops [.mk (some 15) none (.k (.build [.string (ByteArray.mk (Array.mk [])), .bool false, .bool false, .bool false, .bool false] [(0, 1, .const (.string (ByteArray.mk (Array.mk [UInt8.ofNat 109, UInt8.ofNat 111, UInt8.ofNat 118])))), (1, 1, .const (.bool true)), (2, 1, .const (.bool true))])), .mk none none (.k (.store 5 (.tmp 2) (.tmp 15))), .mk (some 3) none (.k (.mov (.const (.bool true))))]) .ret
def T119n3 : XC := .cond (.tmp 16) .skip (.ops [.mk (some 23) none (.k (.cmp .eql .i64 (.tmp 6) (.const (.int .i64 10)))), .mk (some 16) none (.k (.mov (.tmp 23)))])
def T119n4 : XC := .seq (.ops [.mk (some 22) none (.k (.cmp .eql .i64 (.tmp 6) (.const (.int .i64 9)))), .mk (some 16) none (.k (.mov (.tmp 22)))]) (.ref 3)
def T119n5 : XC := .seq (.ops [.mk (some 21) none (.k (.cmp .eql .i64 (.tmp 6) (.const (.int .i64 8)))), .mk (some 16) none (.k (.mov (.tmp 21)))]) (.cond (.tmp 16) .skip (.ref 4))
def T119n6 : XC := .seq (.ops [.mk (some 20) none (.k (.cmp .eql .i64 (.tmp 6) (.const (.int .i64 7)))), .mk (some 16) none (.k (.mov (.tmp 20)))]) (.cond (.tmp 16) .skip (.ref 5))
def T119n7 : XC := .seq (.ops [.mk (some 19) none (.k (.cmp .eql .i64 (.tmp 6) (.const (.int .i64 6)))), .mk (some 16) none (.k (.mov (.tmp 19)))]) (.cond (.tmp 16) .skip (.ref 6))
def T119n8 : XC := .seq (.ops [.mk (some 18) none (.k (.cmp .eql .i64 (.tmp 6) (.const (.int .i64 5)))), .mk (some 16) none (.k (.mov (.tmp 18)))]) (.cond (.tmp 16) .skip (.ref 7))
def T119n9 : XC := .seq (.ops [.mk (some 25) none (.k (.mov (.tmp 4))), .mk (some 26) none (.k (.mov (.tmp 0))), .mk (some 27) none (.k (.arith .sub .i64 (.tmp 26) (.const (.int .i64 4)))), .mk (some 28) none (.k (.idx 1 (.tmp 25) (.tmp 27))), .mk (some 29) none (.k (.load [.str] false (.tmp 28))), .mk (some 30) none (.k (.build [.string (ByteArray.mk (Array.mk [])), .bool false, .bool false, .bool false, .bool false] [(0, 1, .tmp 29), (1, 1, .const (.bool true)), (2, 1, .const (.bool true)), (3, 1, .const (.bool true))])), .mk none none (.k (.store 5 (.tmp 2) (.tmp 30))), .mk (some 3) none (.k (.mov (.const (.bool true))))]) .ret
def T119n10 : XC := .seq (.ops [.mk (some 24) none (.k (.buildS 9 7 1 [.string (ByteArray.mk (Array.mk []))] [(0, .const (.string (ByteArray.mk (Array.mk [UInt8.ofNat 97, UInt8.ofNat 100, UInt8.ofNat 100])))), (1, .const (.string (ByteArray.mk (Array.mk [UInt8.ofNat 115, UInt8.ofNat 117, UInt8.ofNat 98])))), (2, .const (.string (ByteArray.mk (Array.mk [UInt8.ofNat 109, UInt8.ofNat 117, UInt8.ofNat 108])))), (3, .const (.string (ByteArray.mk (Array.mk [UInt8.ofNat 97, UInt8.ofNat 110, UInt8.ofNat 100])))), (4, .const (.string (ByteArray.mk (Array.mk [UInt8.ofNat 120, UInt8.ofNat 111, UInt8.ofNat 114])))), (5, .const (.string (ByteArray.mk (Array.mk [UInt8.ofNat 115, UInt8.ofNat 104, UInt8.ofNat 108])))), (6, .const (.string (ByteArray.mk (Array.mk [UInt8.ofNat 115, UInt8.ofNat 104, UInt8.ofNat 114]))))])), .mk (some 4) none (.k (.mov (.tmp 24)))]) (.ref 9)
def T119n11 : XC := .cond (.tmp 31) .skip (.ops [.mk (some 36) none (.k (.cmp .eql .i64 (.tmp 6) (.const (.int .i64 16)))), .mk (some 31) none (.k (.mov (.tmp 36)))])
def T119n12 : XC := .seq (.ops [.mk (some 35) none (.k (.cmp .eql .i64 (.tmp 6) (.const (.int .i64 15)))), .mk (some 31) none (.k (.mov (.tmp 35)))]) (.ref 11)
def T119n13 : XC := .seq (.ops [.mk (some 34) none (.k (.cmp .eql .i64 (.tmp 6) (.const (.int .i64 14)))), .mk (some 31) none (.k (.mov (.tmp 34)))]) (.cond (.tmp 31) .skip (.ref 12))
def T119n14 : XC := .seq (.ops [.mk (some 33) none (.k (.cmp .eql .i64 (.tmp 6) (.const (.int .i64 12)))), .mk (some 31) none (.k (.mov (.tmp 33)))]) (.cond (.tmp 31) .skip (.ref 13))
def T119n15 : XC := .seq (.ops [.mk (some 38) none (.k (.mov (.tmp 5))), .mk (some 39) none (.k (.mov (.tmp 0))), .mk (some 40) none (.k (.arith .sub .i64 (.tmp 39) (.const (.int .i64 11)))), .mk (some 41) none (.k (.idx 1 (.tmp 38) (.tmp 40))), .mk (some 42) none (.k (.load [.str] false (.tmp 41))), .mk (some 43) none (.k (.build [.string (ByteArray.mk (Array.mk [])), .bool false, .bool false, .bool false, .bool false] [(0, 1, .tmp 42), (1, 1, .const (.bool true)), (2, 1, .const (.bool true)), (4, 1, .const (.bool true))])), .mk none none (.k (.store 5 (.tmp 2) (.tmp 43))), .mk (some 3) none (.k (.mov (.const (.bool true))))]) .ret
def T119n16 : XC := .seq (.ops [.mk (some 37) none (.k (.buildS 9 6 1 [.string (ByteArray.mk (Array.mk []))] [(0, .const (.string (ByteArray.mk (Array.mk [UInt8.ofNat 108, UInt8.ofNat 111, UInt8.ofNat 97, UInt8.ofNat 100])))), (1, .const (.string (ByteArray.mk (Array.mk [UInt8.ofNat 115, UInt8.ofNat 116, UInt8.ofNat 111, UInt8.ofNat 114, UInt8.ofNat 101])))), (2, .const (.string (ByteArray.mk (Array.mk [])))), (3, .const (.string (ByteArray.mk (Array.mk [UInt8.ofNat 101, UInt8.ofNat 113])))), (4, .const (.string (ByteArray.mk (Array.mk [UInt8.ofNat 110, UInt8.ofNat 101])))), (5, .const (.string (ByteArray.mk (Array.mk [UInt8.ofNat 108, UInt8.ofNat 116]))))])), .mk (some 5) none (.k (.mov (.tmp 37)))]) (.ref 15)
def T119n17 : XC := .seq (.ops [.mk (some 46) none (.k (.build [.string (ByteArray.mk (Array.mk [])), .bool false, .bool false, .bool false, .bool false] [(0, 1, .const (.string (ByteArray.mk (Array.mk [UInt8.ofNat 106, UInt8.ofNat 117, UInt8.ofNat 109, UInt8.ofNat 112])))), (4, 1, .const (.bool true))])), .mk none none (.k (.store 5 (.tmp 2) (.tmp 46))), .mk (some 3) none (.k (.mov (.const (.bool true))))]) .ret
def T119n18 : XC := .seq (.ops [.mk (some 49) none (.k (.build [.string (ByteArray.mk (Array.mk [])), .bool false, .bool false, .bool false, .bool false] [(0, 1, .const (.string (ByteArray.mk (Array.mk [UInt8.ofNat 98, UInt8.ofNat 101, UInt8.ofNat 103, UInt8.ofNat 105, UInt8.ofNat 110]))))])), .mk none none (.k (.store 5 (.tmp 2) (.tmp 49))), .mk (some 3) none (.k (.mov (.const (.bool true))))]) .ret
def T119n19 : XC := .seq (.ops [.mk (some 52) none (.k (.build [.string (ByteArray.mk (Array.mk [])), .bool false, .bool false, .bool false, .bool false] [(0, 1, .const (.string (ByteArray.mk (Array.mk [UInt8.ofNat 101, UInt8.ofNat 110, UInt8.ofNat 100]))))])), .mk none none (.k (.store 5 (.tmp 2) (.tmp 52))), .mk (some 3) none (.k (.mov (.const (.bool true))))]) .ret
def T119n20 : XC := .seq (.ops [.mk (some 51) none (.k (.cmp .eql .i64 (.tmp 6) (.const (.int .i64 18)))), .mk (some 50) none (.k (.mov (.tmp 51)))]) (.cond (.tmp 50) (.ref 19) .skip)
def T119n21 : XC := .seq (.ops [.mk (some 48) none (.k (.cmp .eql .i64 (.tmp 6) (.const (.int .i64 17)))), .mk (some 47) none (.k (.mov (.tmp 48)))]) (.cond (.tmp 47) (.ref 18) (.ref 20))
def T119n22 : XC := .seq (.ops [.mk (some 45) none (.k (.cmp .eql .i64 (.tmp 6) (.const (.int .i64 13)))), .mk (some 44) none (.k (.mov (.tmp 45)))]) (.cond (.tmp 44) (.ref 17) (.ref 21))
def T119n23 : XC := .seq (.seq (.ops [.mk (some 32) none (.k (.cmp .eql .i64 (.tmp 6) (.const (.int .i64 11)))), .mk (some 31) none (.k (.mov (.tmp 32)))]) (.cond (.tmp 31) .skip (.ref 14))) (.cond (.tmp 31) (.ref 16) (.ref 22))
def T119n24 : XC := .seq (.seq (.ops [.mk (some 17) none (.k (.cmp .eql .i64 (.tmp 6) (.const (.int .i64 4)))), .mk (some 16) none (.k (.mov (.tmp 17)))]) (.cond (.tmp 16) .skip (.ref 8))) (.cond (.tmp 16) (.ref 10) (.ref 23))
def T119n25 : XC := .seq (.ops [.mk (some 14) none (.k (.cmp .eql .i64 (.tmp 6) (.const (.int .i64 3)))), .mk (some 13) none (.k (.mov (.tmp 14)))]) (.cond (.tmp 13) (.ref 2) (.ref 24))
def T119n26 : XC := .seq (.ops [.mk (some 11) none (.k (.cmp .eql .i64 (.tmp 6) (.const (.int .i64 2)))), .mk (some 10) none (.k (.mov (.tmp 11)))]) (.cond (.tmp 10) (.ref 1) (.ref 25))
def T119n27 : XC := .blk 0 (.seq (.ops [.mk (some 8) none (.k (.cmp .eql .i64 (.tmp 6) (.const (.int .i64 1)))), .mk (some 7) none (.k (.mov (.tmp 8)))]) (.cond (.tmp 7) (.ref 0) (.ref 26)))
def T119n28 : XC := .seq (.ops [.mk (some 53) none (.k (.build [.string (ByteArray.mk (Array.mk [])), .bool false, .bool false, .bool false, .bool false] [])), .mk none none (.k (.store 5 (.tmp 2) (.tmp 53))), .mk (some 3) none (.k (.mov (.const (.bool false))))]) .ret
def T119n29 : XC := .seq (.seq (.ops [.mk (some 6) none (.k (.mov (.tmp 0)))]) (.ref 27)) (.ref 28)
def T119 : Nat → XC
 | 0 => T119n0
 | 1 => T119n1
 | 2 => T119n2
 | 3 => T119n3
 | 4 => T119n4
 | 5 => T119n5
 | 6 => T119n6
 | 7 => T119n7
 | 8 => T119n8
 | 9 => T119n9
 | 10 => T119n10
 | 11 => T119n11
 | 12 => T119n12
 | 13 => T119n13
 | 14 => T119n14
 | 15 => T119n15
 | 16 => T119n16
 | 17 => T119n17
 | 18 => T119n18
 | 19 => T119n19
 | 20 => T119n20
 | 21 => T119n21
 | 22 => T119n22
 | 23 => T119n23
 | 24 => T119n24
 | 25 => T119n25
 | 26 => T119n26
 | 27 => T119n27
 | 28 => T119n28
 | 29 => T119n29
 | _ => .skip
theorem t119n0 : T119 0 = T119n0 := rfl
theorem t119n1 : T119 1 = T119n1 := rfl
theorem t119n2 : T119 2 = T119n2 := rfl
theorem t119n3 : T119 3 = T119n3 := rfl
theorem t119n4 : T119 4 = T119n4 := rfl
theorem t119n5 : T119 5 = T119n5 := rfl
theorem t119n6 : T119 6 = T119n6 := rfl
theorem t119n7 : T119 7 = T119n7 := rfl
theorem t119n8 : T119 8 = T119n8 := rfl
theorem t119n9 : T119 9 = T119n9 := rfl
theorem t119n10 : T119 10 = T119n10 := rfl
theorem t119n11 : T119 11 = T119n11 := rfl
theorem t119n12 : T119 12 = T119n12 := rfl
theorem t119n13 : T119 13 = T119n13 := rfl
theorem t119n14 : T119 14 = T119n14 := rfl
theorem t119n15 : T119 15 = T119n15 := rfl
theorem t119n16 : T119 16 = T119n16 := rfl
theorem t119n17 : T119 17 = T119n17 := rfl
theorem t119n18 : T119 18 = T119n18 := rfl
theorem t119n19 : T119 19 = T119n19 := rfl
theorem t119n20 : T119 20 = T119n20 := rfl
theorem t119n21 : T119 21 = T119n21 := rfl
theorem t119n22 : T119 22 = T119n22 := rfl
theorem t119n23 : T119 23 = T119n23 := rfl
theorem t119n24 : T119 24 = T119n24 := rfl
theorem t119n25 : T119 25 = T119n25 := rfl
theorem t119n26 : T119 26 = T119n26 := rfl
theorem t119n27 : T119 27 = T119n27 := rfl
theorem t119n28 : T119 28 = T119n28 := rfl
theorem t119n29 : T119 29 = T119n29 := rfl
def X119 : XC := .seq (.ops [.mk (some 2) none (.k (.alloc 172 [.string (ByteArray.mk (Array.mk [])), .bool false, .bool false, .bool false, .bool false])), .mk (some 3) none (.k (.mov (.const (.bool false))))]) (.ref 29)
abbrev K119 : List Nat := [0, 2, 3, 4, 5, 6, 7, 10, 13, 16, 31, 44, 47, 50]
theorem n119 : Tryz.f119.ntmps = 54 := by kernel_rfl
theorem r119 : rvOf Tryz.prog Tryz.f119.results.toList = some [RV.cell 2 5 true, RV.tmp 3] := by kernel_rfl
theorem x119 : cmpF Tryz.prog Tryz.f119 = some (expand T119 31 X119) := by kernel_rfl
def T120n0 : XC := .seq (.ops [.mk (some 3) none (.k (.mov (.tmp 0))), .mk (some 4) none (.k (.cmp .geq .i64 (.tmp 3) (.const (.int .i64 0)))), .mk (some 5) none (.k (.mov (.tmp 4))), .mk (some 6) (some (5, true)) (.k (.mov (.tmp 0))), .mk (some 7) (some (5, true)) (.k (.cmp .lss .i64 (.tmp 6) (.const (.int .i64 8)))), .mk (some 8) none (.k (.pick (.tmp 5) (.tmp 7) (.const (.bool false)))), .mk (some 2) none (.k (.mov (.tmp 8)))]) .ret
def T120 : Nat → XC
 | 0 => T120n0
 | _ => .skip
theorem t120n0 : T120 0 = T120n0 := rfl
def X120 : XC := .seq (.ops [.mk (some 2) none (.k (.mov (.const (.bool false))))]) (.ref 0)
abbrev K120 : List Nat := [0, 2]
theorem n120 : Tryz.f120.ntmps = 9 := by kernel_rfl
theorem r120 : resT Tryz.f120.results.toList = some [2] := by kernel_rfl
theorem x120 : cmpF Tryz.prog Tryz.f120 = some (expand T120 2 X120) := by kernel_rfl
def T24n0 : XC := .seq (.ops [.mk (some 26) none (.k (.build [.int .i64 0, .int .i64 0, .int .i64 0, .int .u64 0, .int .u64 0] [])), .mk none none (.k (.store 5 (.tmp 6) (.tmp 26)))]) .ret
def T24n1 : XC := .seq (.ops [.mk (some 52) none (.k (.mov (.tmp 9))), .mk (some 53) none (.callv (.tmp 52) [.const (.int .i64 7)]), .mk none none (.k (.store 5 (.tmp 6) (.tmp 53)))]) .ret
def T24n2 : XC := .seq (.ops [.mk (some 56) none (.k (.mov (.tmp 7))), .mk (some 57) none (.k (.fld 4 (.tmp 3))), .mk (some 58) none (.k (.load [.int .i64] false (.tmp 57))), .mk (some 59) none (.k (.conv .u64 (.tmp 58))), .mk (some 60) none (.callv (.tmp 56) [.tmp 59]), .mk none none (.k (.store 5 (.tmp 6) (.tmp 60)))]) .ret
def T24n3 : XC := .seq (.ops [.mk (some 63) none (.k (.mov (.tmp 7))), .mk (some 64) none (.k (.mov (.tmp 12))), .mk (some 65) none (.callv (.tmp 63) [.tmp 64]), .mk none none (.k (.store 5 (.tmp 6) (.tmp 65)))]) .ret
def T24n4 : XC := .seq (.ops [.mk (some 68) none (.k (.mov (.tmp 7))), .mk (some 69) none (.k (.mov (.tmp 12))), .mk (some 70) none (.k (.mov (.tmp 13))), .mk (some 71) none (.k (.arith .add .u64 (.tmp 69) (.tmp 70))), .mk (some 72) none (.callv (.tmp 68) [.tmp 71]), .mk none none (.k (.store 5 (.tmp 6) (.tmp 72)))]) .ret
def T24n5 : XC := .seq (.ops [.mk (some 75) none (.k (.mov (.tmp 7))), .mk (some 76) none (.k (.mov (.tmp 12))), .mk (some 77) none (.k (.mov (.tmp 13))), .mk (some 78) none (.k (.arith .sub .u64 (.tmp 76) (.tmp 77))), .mk (some 79) none (.callv (.tmp 75) [.tmp 78]), .mk none none (.k (.store 5 (.tmp 6) (.tmp 79)))]) .ret
def T24n6 : XC := .seq (.ops [.mk (some 82) none (.k (.mov (.tmp 7))), .mk (some 83) none (.k (.mov (.tmp 12))), .mk (some 84) none (.k (.mov (.tmp 13))), .mk (some 85) none (.k (.arith .mul .u64 (.tmp 83) (.tmp 84))), .mk (some 86) none (.callv (.tmp 82) [.tmp 85]), .mk none none (.k (.store 5 (.tmp 6) (.tmp 86)))]) .ret
def T24n7 : XC := .seq (.ops [.mk (some 89) none (.k (.mov (.tmp 7))), .mk (some 90) none (.k (.mov (.tmp 12))), .mk (some 91) none (.k (.mov (.tmp 13))), .mk (some 92) none (.k (.bits .and .u64 (.tmp 90) (.tmp 91))), .mk (some 93) none (.callv (.tmp 89) [.tmp 92]), .mk none none (.k (.store 5 (.tmp 6) (.tmp 93)))]) .ret
def T24n8 : XC := .seq (.ops [.mk (some 96) none (.k (.mov (.tmp 7))), .mk (some 97) none (.k (.mov (.tmp 12))), .mk (some 98) none (.k (.mov (.tmp 13))), .mk (some 99) none (.k (.bits .xor .u64 (.tmp 97) (.tmp 98))), .mk (some 100) none (.callv (.tmp 96) [.tmp 99]), .mk none none (.k (.store 5 (.tmp 6) (.tmp 100)))]) .ret
def T24n9 : XC := .seq (.ops [.mk (some 103) none (.k (.mov (.tmp 7))), .mk (some 104) none (.k (.mov (.tmp 12))), .mk (some 105) none (.k (.mov (.tmp 13))), .mk (some 106) none (.k (.div .rem .u64 (.tmp 105) (.const (.int .u64 64)))), .mk (some 107) none (.k (.shift .shl .u64 (.tmp 104) (.tmp 106))), .mk (some 108) none (.callv (.tmp 103) [.tmp 107]), .mk none none (.k (.store 5 (.tmp 6) (.tmp 108)))]) .ret
def T24n10 : XC := .seq (.ops [.mk (some 111) none (.k (.mov (.tmp 7))), .mk (some 112) none (.k (.mov (.tmp 12))), .mk (some 113) none (.k (.mov (.tmp 13))), .mk (some 114) none (.k (.div .rem .u64 (.tmp 113) (.const (.int .u64 64)))), .mk (some 115) none (.k (.shift .shr .u64 (.tmp 112) (.tmp 114))), .mk (some 116) none (.callv (.tmp 111) [.tmp 115]), .mk none none (.k (.store 5 (.tmp 6) (.tmp 116)))]) .ret
def T24n11 : XC := .seq (.ops [.mk (some 119) none (.k (.load [.int .i64] false (.tmp 5))), .mk (some 120) none (.k (.arith .add .i64 (.tmp 119) (.const (.int .i64 1)))), .mk (some 121) none (.k (.fld 1 (.tmp 3))), .mk (some 122) none (.k (.load [.int .i64] false (.tmp 121))), .mk (some 123) none (.k (.mov (.tmp 14))), .mk (some 124) none (.k (.build [.int .i64 0, .int .i64 0, .int .i64 0, .int .u64 0, .int .u64 0] [(0, 1, .const (.int .i64 3)), (1, 1, .tmp 120), (2, 1, .tmp 122), (4, 1, .tmp 123)])), .mk none none (.k (.store 5 (.tmp 6) (.tmp 124)))]) .ret
def T24n12 : XC := .seq (.ops [.mk (some 127) none (.k (.load [.int .i64] false (.tmp 5))), .mk (some 128) none (.k (.arith .add .i64 (.tmp 127) (.const (.int .i64 1)))), .mk (some 129) none (.k (.mov (.tmp 11))), .mk (some 130) none (.k (.mov (.tmp 14))), .mk (some 131) none (.k (.build [.int .i64 0, .int .i64 0, .int .i64 0, .int .u64 0, .int .u64 0] [(0, 1, .const (.int .i64 4)), (1, 1, .tmp 128), (3, 1, .tmp 129), (4, 1, .tmp 130)])), .mk none none (.k (.store 5 (.tmp 6) (.tmp 131)))]) .ret
def T24n13 : XC := .seq (.ops [.mk (some 134) none (.k (.mov (.tmp 8))), .mk (some 135) none (.callv (.tmp 134) [.const (.bool true)]), .mk none none (.k (.store 5 (.tmp 6) (.tmp 135)))]) .ret
def T24n14 : XC := .seq (.ops [.mk (some 138) none (.k (.mov (.tmp 8))), .mk (some 139) none (.k (.mov (.tmp 11))), .mk (some 140) none (.k (.mov (.tmp 12))), .mk (some 141) none (.k (.cmp .eql .u64 (.tmp 139) (.tmp 140))), .mk (some 142) none (.callv (.tmp 138) [.tmp 141]), .mk none none (.k (.store 5 (.tmp 6) (.tmp 142)))]) .ret
def T24n15 : XC := .seq (.ops [.mk (some 145) none (.k (.mov (.tmp 8))), .mk (some 146) none (.k (.mov (.tmp 11))), .mk (some 147) none (.k (.mov (.tmp 12))), .mk (some 148) none (.k (.cmp .neq .u64 (.tmp 146) (.tmp 147))), .mk (some 149) none (.callv (.tmp 145) [.tmp 148]), .mk none none (.k (.store 5 (.tmp 6) (.tmp 149)))]) .ret
def T24n16 : XC := .seq (.ops [.mk (some 152) none (.k (.mov (.tmp 8))), .mk (some 153) none (.k (.mov (.tmp 11))), .mk (some 154) none (.k (.mov (.tmp 12))), .mk (some 155) none (.k (.cmp .lss .u64 (.tmp 153) (.tmp 154))), .mk (some 156) none (.callv (.tmp 152) [.tmp 155]), .mk none none (.k (.store 5 (.tmp 6) (.tmp 156)))]) .ret
def T24n17 : XC := .seq (.ops [.mk (some 159) none (.k (.mov (.tmp 9))), .mk (some 160) none (.callv (.tmp 159) [.const (.int .i64 5)]), .mk none none (.k (.store 5 (.tmp 6) (.tmp 160)))]) .ret
def T24n18 : XC := .seq (.ops [.mk (some 158) none (.k (.cmp .eql .i64 (.tmp 49) (.const (.int .i64 17)))), .mk (some 157) none (.k (.mov (.tmp 158)))]) (.cond (.tmp 157) (.ref 17) .skip)
def T24n19 : XC := .seq (.ops [.mk (some 151) none (.k (.cmp .eql .i64 (.tmp 49) (.const (.int .i64 16)))), .mk (some 150) none (.k (.mov (.tmp 151)))]) (.cond (.tmp 150) (.ref 16) (.ref 18))
def T24n20 : XC := .seq (.ops [.mk (some 144) none (.k (.cmp .eql .i64 (.tmp 49) (.const (.int .i64 15)))), .mk (some 143) none (.k (.mov (.tmp 144)))]) (.cond (.tmp 143) (.ref 15) (.ref 19))
def T24n21 : XC := .seq (.ops [.mk (some 137) none (.k (.cmp .eql .i64 (.tmp 49) (.const (.int .i64 14)))), .mk (some 136) none (.k (.mov (.tmp 137)))]) (.cond (.tmp 136) (.ref 14) (.ref 20))
def T24n22 : XC := .seq (.ops [.mk (some 133) none (.k (.cmp .eql .i64 (.tmp 49) (.const (.int .i64 13)))), .mk (some 132) none (.k (.mov (.tmp 133)))]) (.cond (.tmp 132) (.ref 13) (.ref 21))
def T24n23 : XC := .seq (.ops [.mk (some 126) none (.k (.cmp .eql .i64 (.tmp 49) (.const (.int .i64 12)))), .mk (some 125) none (.k (.mov (.tmp 126)))]) (.cond (.tmp 125) (.ref 12) (.ref 22))
def T24n24 : XC := .seq (.ops [.mk (some 118) none (.k (.cmp .eql .i64 (.tmp 49) (.const (.int .i64 11)))), .mk (some 117) none (.k (.mov (.tmp 118)))]) (.cond (.tmp 117) (.ref 11) (.ref 23))
def T24n25 : XC := .seq (.ops [.mk (some 110) none (.k (.cmp .eql .i64 (.tmp 49) (.const (.int .i64 10)))), .mk (some 109) none (.k (.mov (.tmp 110)))]) (.cond (.tmp 109) (.ref 10) (.ref 24))
def T24n26 : XC := .seq (.ops [.mk (some 102) none (.k (.cmp .eql .i64 (.tmp 49) (.const (.int .i64 9)))), .mk (some 101) none (.k (.mov (.tmp 102)))]) (.cond (.tmp 101) (.ref 9) (.ref 25))
def T24n27 : XC := .seq (.ops [.mk (some 95) none (.k (.cmp .eql .i64 (.tmp 49) (.const (.int .i64 8)))), .mk (some 94) none (.k (.mov (.tmp 95)))]) (.cond (.tmp 94) (.ref 8) (.ref 26))
def T24n28 : XC := .seq (.ops [.mk (some 88) none (.k (.cmp .eql .i64 (.tmp 49) (.const (.int .i64 7)))), .mk (some 87) none (.k (.mov (.tmp 88)))]) (.cond (.tmp 87) (.ref 7) (.ref 27))
def T24n29 : XC := .seq (.ops [.mk (some 81) none (.k (.cmp .eql .i64 (.tmp 49) (.const (.int .i64 6)))), .mk (some 80) none (.k (.mov (.tmp 81)))]) (.cond (.tmp 80) (.ref 6) (.ref 28))
def T24n30 : XC := .seq (.ops [.mk (some 74) none (.k (.cmp .eql .i64 (.tmp 49) (.const (.int .i64 5)))), .mk (some 73) none (.k (.mov (.tmp 74)))]) (.cond (.tmp 73) (.ref 5) (.ref 29))
def T24n31 : XC := .seq (.ops [.mk (some 67) none (.k (.cmp .eql .i64 (.tmp 49) (.const (.int .i64 4)))), .mk (some 66) none (.k (.mov (.tmp 67)))]) (.cond (.tmp 66) (.ref 4) (.ref 30))
def T24n32 : XC := .seq (.ops [.mk (some 62) none (.k (.cmp .eql .i64 (.tmp 49) (.const (.int .i64 3)))), .mk (some 61) none (.k (.mov (.tmp 62)))]) (.cond (.tmp 61) (.ref 3) (.ref 31))
def T24n33 : XC := .seq (.ops [.mk (some 55) none (.k (.cmp .eql .i64 (.tmp 49) (.const (.int .i64 2)))), .mk (some 54) none (.k (.mov (.tmp 55)))]) (.cond (.tmp 54) (.ref 2) (.ref 32))
def T24n34 : XC := .blk 0 (.seq (.ops [.mk (some 51) none (.k (.cmp .eql .i64 (.tmp 49) (.const (.int .i64 1)))), .mk (some 50) none (.k (.mov (.tmp 51)))]) (.cond (.tmp 50) (.ref 1) (.ref 33)))
def T24n35 : XC := .seq (.ops [.mk (some 161) none (.k (.mov (.tmp 9))), .mk (some 162) none (.callv (.tmp 161) [.const (.int .i64 6)]), .mk none none (.k (.store 5 (.tmp 6) (.tmp 162)))]) .ret
def T24n36 : XC := .seq (.seq (.ops [.mk (some 48) none (.k (.fld 0 (.tmp 3))), .mk (some 49) none (.k (.load [.int .i64] false (.tmp 48)))]) (.ref 34)) (.ref 35)
def T24n37 : XC := .seq (.ops [.mk (some 43) none (.k (.mov (.tmp 12))), .mk (some 44) none (.k (.fld 4 (.tmp 3))), .mk (some 45) none (.k (.load [.int .i64] false (.tmp 44))), .mk (some 46) none (.k (.conv .u64 (.tmp 45))), .mk (some 47) none (.k (.arith .add .u64 (.tmp 43) (.tmp 46))), .mk (some 14) none (.k (.mov (.tmp 47)))]) (.ref 36)
def T24n38 : XC := .seq (.ops [.mk (some 31) none (.k (.mov (.tmp 10))), .mk (some 32) none (.k (.fld 1 (.tmp 3))), .mk (some 35) none (.k (.mov (.tmp 10))), .mk (some 36) none (.k (.fld 2 (.tmp 3))), .mk (some 39) none (.k (.mov (.tmp 10))), .mk (some 40) none (.k (.fld 3 (.tmp 3))), .mk (some 33) none (.k (.load [.int .i64] false (.tmp 32))), .mk (some 37) none (.k (.load [.int .i64] false (.tmp 36))), .mk (some 41) none (.k (.load [.int .i64] false (.tmp 40))), .mk (some 34) none (.callv (.tmp 31) [.tmp 33]), .mk none none (.still 41 (.load [.int .i64] false (.tmp 40))), .mk none none (.still 37 (.load [.int .i64] false (.tmp 36))), .mk (some 38) none (.callv (.tmp 35) [.tmp 37]), .mk none none (.still 41 (.load [.int .i64] false (.tmp 40))), .mk (some 42) none (.callv (.tmp 39) [.tmp 41]), .mk (some 11) none (.k (.mov (.tmp 34))), .mk (some 12) none (.k (.mov (.tmp 38))), .mk (some 13) none (.k (.mov (.tmp 42)))]) (.ref 37)
def T24n39 : XC := .seq (.ops [.mk (some 30) none (.k (.mkfn (.func 52) [] [.tmp 4])), .mk (some 10) none (.k (.mov (.tmp 30)))]) (.ref 38)
def T24n40 : XC := .seq (.ops [.mk (some 29) none (.k (.mkfn (.func 51) [] [.tmp 5])), .mk (some 9) none (.k (.mov (.tmp 29)))]) (.ref 39)
def T24n41 : XC := .seq (.ops [.mk (some 28) none (.k (.mkfn (.func 50) [] [.tmp 5, .tmp 3])), .mk (some 8) none (.k (.mov (.tmp 28)))]) (.ref 40)
def T24n42 : XC := .seq (.ops [.mk (some 27) none (.k (.mkfn (.func 49) [] [.tmp 5, .tmp 3])), .mk (some 7) none (.k (.mov (.tmp 27)))]) (.ref 41)
def T24n43 : XC := .seq (.seq (.ops [.mk (some 15) none (.k (.load [.int .i64, .int .i64, .int .i64, .int .i64, .int .i64] true (.tmp 3))), .mk (some 16) none (.call 21 [.tmp 15]), .mk (some 17) none (.k (.not (.tmp 16))), .mk (some 18) none (.k (.mov (.tmp 17))), .mk (some 19) (some (18, false)) (.k (.load [.int .i64] false (.tmp 5))), .mk (some 20) (some (18, false)) (.k (.cmp .lss .i64 (.tmp 19) (.const (.int .i64 0)))), .mk (some 21) none (.k (.pick (.tmp 18) (.const (.bool true)) (.tmp 20))), .mk (some 22) none (.k (.mov (.tmp 21))), .mk (some 23) (some (22, false)) (.k (.load [.int .i64] false (.tmp 5))), .mk (some 24) (some (22, false)) (.k (.cmp .geq .i64 (.tmp 23) (.const (.int .i64 1024)))), .mk (some 25) none (.k (.pick (.tmp 22) (.const (.bool true)) (.tmp 24)))]) (.cond (.tmp 25) (.ref 0) .skip)) (.ref 42)
def T24 : Nat → XC
 | 0 => T24n0
 | 1 => T24n1
 | 2 => T24n2
 | 3 => T24n3
 | 4 => T24n4
 | 5 => T24n5
 | 6 => T24n6
 | 7 => T24n7
 | 8 => T24n8
 | 9 => T24n9
 | 10 => T24n10
 | 11 => T24n11
 | 12 => T24n12
 | 13 => T24n13
 | 14 => T24n14
 | 15 => T24n15
 | 16 => T24n16
 | 17 => T24n17
 | 18 => T24n18
 | 19 => T24n19
 | 20 => T24n20
 | 21 => T24n21
 | 22 => T24n22
 | 23 => T24n23
 | 24 => T24n24
 | 25 => T24n25
 | 26 => T24n26
 | 27 => T24n27
 | 28 => T24n28
 | 29 => T24n29
 | 30 => T24n30
 | 31 => T24n31
 | 32 => T24n32
 | 33 => T24n33
 | 34 => T24n34
 | 35 => T24n35
 | 36 => T24n36
 | 37 => T24n37
 | 38 => T24n38
 | 39 => T24n39
 | 40 => T24n40
 | 41 => T24n41
 | 42 => T24n42
 | 43 => T24n43
 | _ => .skip
theorem t24n0 : T24 0 = T24n0 := rfl
theorem t24n1 : T24 1 = T24n1 := rfl
theorem t24n2 : T24 2 = T24n2 := rfl
theorem t24n3 : T24 3 = T24n3 := rfl
theorem t24n4 : T24 4 = T24n4 := rfl
theorem t24n5 : T24 5 = T24n5 := rfl
theorem t24n6 : T24 6 = T24n6 := rfl
theorem t24n7 : T24 7 = T24n7 := rfl
theorem t24n8 : T24 8 = T24n8 := rfl
theorem t24n9 : T24 9 = T24n9 := rfl
theorem t24n10 : T24 10 = T24n10 := rfl
theorem t24n11 : T24 11 = T24n11 := rfl
theorem t24n12 : T24 12 = T24n12 := rfl
theorem t24n13 : T24 13 = T24n13 := rfl
theorem t24n14 : T24 14 = T24n14 := rfl
theorem t24n15 : T24 15 = T24n15 := rfl
theorem t24n16 : T24 16 = T24n16 := rfl
theorem t24n17 : T24 17 = T24n17 := rfl
theorem t24n18 : T24 18 = T24n18 := rfl
theorem t24n19 : T24 19 = T24n19 := rfl
theorem t24n20 : T24 20 = T24n20 := rfl
theorem t24n21 : T24 21 = T24n21 := rfl
theorem t24n22 : T24 22 = T24n22 := rfl
theorem t24n23 : T24 23 = T24n23 := rfl
theorem t24n24 : T24 24 = T24n24 := rfl
theorem t24n25 : T24 25 = T24n25 := rfl
theorem t24n26 : T24 26 = T24n26 := rfl
theorem t24n27 : T24 27 = T24n27 := rfl
theorem t24n28 : T24 28 = T24n28 := rfl
theorem t24n29 : T24 29 = T24n29 := rfl
theorem t24n30 : T24 30 = T24n30 := rfl
theorem t24n31 : T24 31 = T24n31 := rfl
theorem t24n32 : T24 32 = T24n32 := rfl
theorem t24n33 : T24 33 = T24n33 := rfl
theorem t24n34 : T24 34 = T24n34 := rfl
theorem t24n35 : T24 35 = T24n35 := rfl
theorem t24n36 : T24 36 = T24n36 := rfl
theorem t24n37 : T24 37 = T24n37 := rfl
theorem t24n38 : T24 38 = T24n38 := rfl
theorem t24n39 : T24 39 = T24n39 := rfl
theorem t24n40 : T24 40 = T24n40 := rfl
theorem t24n41 : T24 41 = T24n41 := rfl
theorem t24n42 : T24 42 = T24n42 := rfl
theorem t24n43 : T24 43 = T24n43 := rfl
def X24 : XC := .seq (.ops [.mk (some 3) none (.k (.box 41 5 (.tmp 0))), .mk (some 4) none (.k (.box 50 8 (.tmp 1))), .mk (some 5) none (.k (.box 3 1 (.tmp 2))), .mk (some 6) none (.k (.alloc 54 [.int .i64 0, .int .i64 0, .int .i64 0, .int .u64 0, .int .u64 0]))]) (.ref 43)
abbrev K24 : List Nat := [0, 1, 2, 3, 4, 5, 6, 7, 8, 9, 10, 11, 12, 13, 14, 25, 49, 50, 54, 61, 66, 73, 80, 87, 94, 101, 109, 117, 125, 132, 136, 143, 150, 157]
theorem n24 : Tryz.f24.ntmps = 163 := by kernel_rfl
theorem r24 : rvOf Tryz.prog Tryz.f24.results.toList = some [RV.cell 6 5 true] := by kernel_rfl
theorem x24 : cmpF Tryz.prog Tryz.f24 = some (expand T24 45 X24) := by kernel_rfl
def T49n0 : XC := .seq (.ops [.mk (some 5) none (.k (.load [.int .i64] false (.tmp 1))), .mk (some 6) none (.k (.arith .add .i64 (.tmp 5) (.const (.int .i64 1)))), .mk (some 7) none (.k (.fld 1 (.tmp 2))), .mk (some 8) none (.k (.load [.int .i64] false (.tmp 7))), .mk (some 9) none (.k (.mov (.tmp 0))), .mk (some 10) none (.k (.build [.int .i64 0, .int .i64 0, .int .i64 0, .int .u64 0, .int .u64 0] [(0, 1, .const (.int .i64 1)), (1, 1, .tmp 6), (2, 1, .tmp 8), (3, 1, .tmp 9)])), .mk none none (.k (.store 5 (.tmp 4) (.tmp 10)))]) .ret
def T49 : Nat → XC
 | 0 => T49n0
 | _ => .skip
theorem t49n0 : T49 0 = T49n0 := rfl
def X49 : XC := .seq (.ops [.mk (some 4) none (.k (.alloc 54 [.int .i64 0, .int .i64 0, .int .i64 0, .int .u64 0, .int .u64 0]))]) (.ref 0)
abbrev K49 : List Nat := [0, 1, 2, 4]
theorem n49 : Tryz.f49.ntmps = 11 := by kernel_rfl
theorem r49 : rvOf Tryz.prog Tryz.f49.results.toList = some [RV.cell 4 5 true] := by kernel_rfl
theorem x49 : cmpF Tryz.prog Tryz.f49 = some (expand T49 2 X49) := by kernel_rfl
def T50n0 : XC := .seq (.ops [.mk (some 7) none (.k (.load [.int .i64] false (.tmp 1))), .mk (some 8) none (.k (.arith .add .i64 (.tmp 7) (.const (.int .i64 1)))), .mk (some 9) none (.k (.build [.int .i64 0, .int .i64 0, .int .i64 0, .int .u64 0, .int .u64 0] [(0, 1, .const (.int .i64 2)), (1, 1, .tmp 8)])), .mk none none (.k (.store 5 (.tmp 4) (.tmp 9)))]) .ret
def T50n1 : XC := .seq (.ops [.mk (some 18) none (.k (.build [.int .i64 0, .int .i64 0, .int .i64 0, .int .u64 0, .int .u64 0] [])), .mk none none (.k (.store 5 (.tmp 4) (.tmp 18)))]) .ret
def T50n2 : XC := .seq (.ops [.mk (some 19) none (.k (.fld 4 (.tmp 2))), .mk (some 20) none (.k (.load [.int .i64] false (.tmp 19))), .mk (some 21) none (.k (.build [.int .i64 0, .int .i64 0, .int .i64 0, .int .u64 0, .int .u64 0] [(0, 1, .const (.int .i64 2)), (1, 1, .tmp 20)])), .mk none none (.k (.store 5 (.tmp 4) (.tmp 21)))]) .ret
def T50n3 : XC := .seq (.seq (.ops [.mk (some 10) none (.k (.fld 4 (.tmp 2))), .mk (some 11) none (.k (.load [.int .i64] false (.tmp 10))), .mk (some 12) none (.k (.cmp .lss .i64 (.tmp 11) (.const (.int .i64 0)))), .mk (some 13) none (.k (.mov (.tmp 12))), .mk (some 14) (some (13, false)) (.k (.fld 4 (.tmp 2))), .mk (some 15) (some (13, false)) (.k (.load [.int .i64] false (.tmp 14))), .mk (some 16) (some (13, false)) (.k (.cmp .gtr .i64 (.tmp 15) (.const (.int .i64 1024)))), .mk (some 17) none (.k (.pick (.tmp 13) (.const (.bool true)) (.tmp 16)))]) (.cond (.tmp 17) (.ref 1) .skip)) (.ref 2)
def T50n4 : XC := .seq (.seq (.ops [.mk (some 5) none (.k (.mov (.tmp 0))), .mk (some 6) none (.k (.not (.tmp 5)))]) (.cond (.tmp 6) (.ref 0) .skip)) (.ref 3)
def T50 : Nat → XC
 | 0 => T50n0
 | 1 => T50n1
 | 2 => T50n2
 | 3 => T50n3
 | 4 => T50n4
 | _ => .skip
theorem t50n0 : T50 0 = T50n0 := rfl
theorem t50n1 : T50 1 = T50n1 := rfl
theorem t50n2 : T50 2 = T50n2 := rfl
theorem t50n3 : T50 3 = T50n3 := rfl
theorem t50n4 : T50 4 = T50n4 := rfl
def X50 : XC := .seq (.ops [.mk (some 4) none (.k (.alloc 54 [.int .i64 0, .int .i64 0, .int .i64 0, .int .u64 0, .int .u64 0]))]) (.ref 4)
abbrev K50 : List Nat := [0, 1, 2, 4, 6, 17]
theorem n50 : Tryz.f50.ntmps = 22 := by kernel_rfl
theorem r50 : rvOf Tryz.prog Tryz.f50.results.toList = some [RV.cell 4 5 true] := by kernel_rfl
theorem x50 : cmpF Tryz.prog Tryz.f50 = some (expand T50 6 X50) := by kernel_rfl
def T51n0 : XC := .seq (.ops [.mk (some 4) none (.k (.mov (.tmp 0))), .mk (some 5) none (.k (.load [.int .i64] false (.tmp 1))), .mk (some 6) none (.k (.arith .add .i64 (.tmp 5) (.const (.int .i64 1)))), .mk (some 7) none (.k (.build [.int .i64 0, .int .i64 0, .int .i64 0, .int .u64 0, .int .u64 0] [(0, 1, .tmp 4), (1, 1, .tmp 6)])), .mk none none (.k (.store 5 (.tmp 3) (.tmp 7)))]) .ret
def T51 : Nat → XC
 | 0 => T51n0
 | _ => .skip
theorem t51n0 : T51 0 = T51n0 := rfl
def X51 : XC := .seq (.ops [.mk (some 3) none (.k (.alloc 54 [.int .i64 0, .int .i64 0, .int .i64 0, .int .u64 0, .int .u64 0]))]) (.ref 0)
abbrev K51 : List Nat := [0, 1, 3]
theorem n51 : Tryz.f51.ntmps = 8 := by kernel_rfl
theorem r51 : rvOf Tryz.prog Tryz.f51.results.toList = some [RV.cell 3 5 true] := by kernel_rfl
theorem x51 : cmpF Tryz.prog Tryz.f51 = some (expand T51 2 X51) := by kernel_rfl
def T52n0 : XC := .seq (.ops [.mk (some 4) none (.k (.mov (.tmp 0))), .mk (some 5) none (.k (.bits .and .i64 (.tmp 4) (.const (.int .i64 7)))), .mk (some 6) none (.k (.idxA 8 1 (.tmp 1) (.tmp 5))), .mk (some 7) none (.k (.load [.int .u64] false (.tmp 6))), .mk (some 3) none (.k (.mov (.tmp 7)))]) .ret
def T52 : Nat → XC
 | 0 => T52n0
 | _ => .skip
theorem t52n0 : T52 0 = T52n0 := rfl
def X52 : XC := .seq (.ops [.mk (some 3) none (.k (.mov (.const (.int .u64 0))))]) (.ref 0)
abbrev K52 : List Nat := [0, 1, 3]
theorem n52 : Tryz.f52.ntmps = 8 := by kernel_rfl
theorem r52 : resT Tryz.f52.results.toList = some [3] := by kernel_rfl
theorem x52 : cmpF Tryz.prog Tryz.f52 = some (expand T52 2 X52) := by kernel_rfl
def T92n0 : XC := .seq (.ops [.mk (some 34) none (.k (.build [.int .i64 0, .int .i64 0, .int .i64 0, .int .u64 0, .int .u64 0] [])), .mk none none (.k (.store 5 (.tmp 6) (.tmp 34)))]) .ret
def T92n1 : XC := .ops [.mk (some 37) none (.k (.fld 1 (.tmp 3))), .mk (some 38) none (.k (.load [.int .i64] false (.tmp 37))), .mk (some 39) none (.k (.idxA 8 1 (.tmp 4) (.tmp 38))), .mk (some 40) none (.k (.load [.int .u64] false (.tmp 39))), .mk (some 9) none (.k (.mov (.tmp 40)))]
def T92n2 : XC := .ops [.mk (some 43) none (.k (.fld 2 (.tmp 3))), .mk (some 44) none (.k (.load [.int .i64] false (.tmp 43))), .mk (some 45) none (.k (.idxA 8 1 (.tmp 4) (.tmp 44))), .mk (some 46) none (.k (.load [.int .u64] false (.tmp 45))), .mk (some 10) none (.k (.mov (.tmp 46)))]
def T92n3 : XC := .ops [.mk (some 49) none (.k (.fld 3 (.tmp 3))), .mk (some 50) none (.k (.load [.int .i64] false (.tmp 49))), .mk (some 51) none (.k (.idxA 8 1 (.tmp 4) (.tmp 50))), .mk (some 52) none (.k (.load [.int .u64] false (.tmp 51))), .mk (some 11) none (.k (.mov (.tmp 52)))]
def T92n4 : XC := .ops [.mk (some 65) none (.k (.fld 4 (.tmp 3))), .mk (some 66) none (.k (.load [.int .i64] false (.tmp 65))), .mk (some 67) none (.k (.conv .u64 (.tmp 66))), .mk (some 68) none (.k (.fld 3 (.tmp 12))), .mk none none (.k (.store 1 (.tmp 68) (.tmp 67)))]
def T92n5 : XC := .ops [.mk (some 71) none (.k (.mov (.tmp 10))), .mk (some 72) none (.k (.fld 3 (.tmp 12))), .mk none none (.k (.store 1 (.tmp 72) (.tmp 71)))]
def T92n6 : XC := .ops [.mk (some 75) none (.k (.mov (.tmp 10))), .mk (some 76) none (.k (.mov (.tmp 11))), .mk (some 77) none (.k (.arith .add .u64 (.tmp 75) (.tmp 76))), .mk (some 78) none (.k (.fld 3 (.tmp 12))), .mk none none (.k (.store 1 (.tmp 78) (.tmp 77)))]
def T92n7 : XC := .ops [.mk (some 81) none (.k (.mov (.tmp 10))), .mk (some 82) none (.k (.mov (.tmp 11))), .mk (some 83) none (.k (.arith .sub .u64 (.tmp 81) (.tmp 82))), .mk (some 84) none (.k (.fld 3 (.tmp 12))), .mk none none (.k (.store 1 (.tmp 84) (.tmp 83)))]
def T92n8 : XC := .ops [.mk (some 87) none (.k (.mov (.tmp 10))), .mk (some 88) none (.k (.mov (.tmp 11))), .mk (some 89) none (.k (.arith .mul .u64 (.tmp 87) (.tmp 88))), .mk (some 90) none (.k (.fld 3 (.tmp 12))), .mk none none (.k (.store 1 (.tmp 90) (.tmp 89)))]
def T92n9 : XC := .ops [.mk (some 93) none (.k (.mov (.tmp 10))), .mk (some 94) none (.k (.mov (.tmp 11))), .mk (some 95) none (.k (.bits .and .u64 (.tmp 93) (.tmp 94))), .mk (some 96) none (.k (.fld 3 (.tmp 12))), .mk none none (.k (.store 1 (.tmp 96) (.tmp 95)))]
def T92n10 : XC := .ops [.mk (some 99) none (.k (.mov (.tmp 10))), .mk (some 100) none (.k (.mov (.tmp 11))), .mk (some 101) none (.k (.bits .xor .u64 (.tmp 99) (.tmp 100))), .mk (some 102) none (.k (.fld 3 (.tmp 12))), .mk none none (.k (.store 1 (.tmp 102) (.tmp 101)))]
def T92n11 : XC := .cond (.tmp 103) .skip (.ops [.mk (some 105) none (.k (.cmp .eql .i64 (.tmp 59) (.const (.int .i64 10)))), .mk (some 103) none (.k (.mov (.tmp 105)))])
def T92n12 : XC := .ops [.mk (some 106) none (.k (.mov (.tmp 10))), .mk (some 107) none (.k (.mov (.tmp 11))), .mk (some 108) none (.k (.fld 0 (.tmp 3))), .mk (some 109) none (.k (.load [.int .i64] false (.tmp 108))), .mk (some 110) none (.k (.cmp .eql .i64 (.tmp 109) (.const (.int .i64 9)))), .mk (some 111) none (.call 121 [.tmp 106, .tmp 107, .tmp 110]), .mk (some 112) none (.k (.fld 3 (.tmp 12))), .mk none none (.k (.store 1 (.tmp 112) (.tmp 111)))]
def T92n13 : XC := .ops [.mk (some 116) none (.k (.mov (.tmp 10))), .mk (some 117) none (.k (.fld 4 (.tmp 3))), .mk (some 118) none (.k (.load [.int .i64] false (.tmp 117))), .mk (some 119) none (.k (.conv .u64 (.tmp 118))), .mk (some 120) none (.k (.arith .add .u64 (.tmp 116) (.tmp 119))), .mk (some 121) none (.k (.fld 4 (.tmp 12))), .mk none none (.k (.store 1 (.tmp 121) (.tmp 120)))]
def T92n14 : XC := .seq (.ops [.mk (some 115) none (.k (.fld 0 (.tmp 12))), .mk none none (.k (.store 1 (.tmp 115) (.const (.int .i64 3))))]) (.ref 13)
def T92n15 : XC := .ops [.mk (some 124) none (.k (.mov (.tmp 2))), .mk (some 125) none (.k (.arith .add .i64 (.tmp 124) (.const (.int .i64 1)))), .mk (some 126) none (.k (.mov (.tmp 9))), .mk (some 127) none (.k (.mov (.tmp 10))), .mk (some 128) none (.k (.fld 4 (.tmp 3))), .mk (some 129) none (.k (.load [.int .i64] false (.tmp 128))), .mk (some 130) none (.k (.conv .u64 (.tmp 129))), .mk (some 131) none (.k (.arith .add .u64 (.tmp 127) (.tmp 130))), .mk (some 132) none (.k (.build [.int .i64 0, .int .i64 0, .int .i64 0, .int .u64 0, .int .u64 0] [(0, 1, .const (.int .i64 4)), (1, 1, .tmp 125), (3, 1, .tmp 126), (4, 1, .tmp 131)])), .mk none none (.k (.store 5 (.tmp 12) (.tmp 132)))]
def T92n16 : XC := .cond (.tmp 133) .skip (.ops [.mk (some 137) none (.k (.cmp .eql .i64 (.tmp 59) (.const (.int .i64 16)))), .mk (some 133) none (.k (.mov (.tmp 137)))])
def T92n17 : XC := .seq (.ops [.mk (some 136) none (.k (.cmp .eql .i64 (.tmp 59) (.const (.int .i64 15)))), .mk (some 133) none (.k (.mov (.tmp 136)))]) (.ref 16)
def T92n18 : XC := .seq (.ops [.mk (some 135) none (.k (.cmp .eql .i64 (.tmp 59) (.const (.int .i64 14)))), .mk (some 133) none (.k (.mov (.tmp 135)))]) (.cond (.tmp 133) .skip (.ref 17))
def T92n19 : XC := .seq (.ops [.mk (some 185) none (.k (.build [.int .i64 0, .int .i64 0, .int .i64 0, .int .u64 0, .int .u64 0] [])), .mk none none (.k (.store 5 (.tmp 6) (.tmp 185)))]) .ret
def T92n20 : XC := .seq (.ops [.mk (some 177) none (.k (.fld 4 (.tmp 3))), .mk (some 178) none (.k (.load [.int .i64] false (.tmp 177))), .mk (some 179) none (.k (.cmp .lss .i64 (.tmp 178) (.const (.int .i64 0)))), .mk (some 180) none (.k (.mov (.tmp 179))), .mk (some 181) (some (180, false)) (.k (.fld 4 (.tmp 3))), .mk (some 182) (some (180, false)) (.k (.load [.int .i64] false (.tmp 181))), .mk (some 183) (some (180, false)) (.k (.cmp .gtr .i64 (.tmp 182) (.const (.int .i64 1024)))), .mk (some 184) none (.k (.pick (.tmp 180) (.const (.bool true)) (.tmp 183)))]) (.cond (.tmp 184) (.ref 19) .skip)
def T92n21 : XC := .seq (.ops [.mk (some 174) none (.k (.fld 4 (.tmp 3))), .mk (some 175) none (.k (.load [.int .i64] false (.tmp 174))), .mk (some 176) none (.k (.fld 1 (.tmp 12))), .mk none none (.k (.store 1 (.tmp 176) (.tmp 175)))]) (.ref 20)
def T92n22 : XC := .seq (.ops [.mk (some 141) none (.k (.fld 0 (.tmp 3))), .mk (some 142) none (.k (.load [.int .i64] false (.tmp 141))), .mk (some 143) none (.k (.cmp .eql .i64 (.tmp 142) (.const (.int .i64 13)))), .mk (some 144) none (.k (.mov (.tmp 143))), .mk (some 145) (some (144, false)) (.k (.fld 0 (.tmp 3))), .mk (some 146) (some (144, false)) (.k (.load [.int .i64] false (.tmp 145))), .mk (some 147) (some (144, false)) (.k (.cmp .eql .i64 (.tmp 146) (.const (.int .i64 14)))), .mk (some 148) (some (144, false)) (.k (.mov (.tmp 147))), .mk (some 149) (some (148, true)) (.k (.mov (.tmp 9))), .mk (some 150) (some (148, true)) (.k (.mov (.tmp 10))), .mk (some 151) (some (148, true)) (.k (.cmp .eql .u64 (.tmp 149) (.tmp 150))), .mk (some 152) (some (144, false)) (.k (.pick (.tmp 148) (.tmp 151) (.const (.bool false)))), .mk (some 153) none (.k (.pick (.tmp 144) (.const (.bool true)) (.tmp 152))), .mk (some 154) none (.k (.mov (.tmp 153))), .mk (some 155) (some (154, false)) (.k (.fld 0 (.tmp 3))), .mk (some 156) (some (154, false)) (.k (.load [.int .i64] false (.tmp 155))), .mk (some 157) (some (154, false)) (.k (.cmp .eql .i64 (.tmp 156) (.const (.int .i64 15)))), .mk (some 158) (some (154, false)) (.k (.mov (.tmp 157))), .mk (some 159) (some (158, true)) (.k (.mov (.tmp 9))), .mk (some 160) (some (158, true)) (.k (.mov (.tmp 10))), .mk (some 161) (some (158, true)) (.k (.cmp .neq .u64 (.tmp 159) (.tmp 160))), .mk (some 162) (some (154, false)) (.k (.pick (.tmp 158) (.tmp 161) (.const (.bool false)))), .mk (some 163) none (.k (.pick (.tmp 154) (.const (.bool true)) (.tmp 162))), .mk (some 164) none (.k (.mov (.tmp 163))), .mk (some 165) (some (164, false)) (.k (.fld 0 (.tmp 3))), .mk (some 166) (some (164, false)) (.k (.load [.int .i64] false (.tmp 165))), .mk (some 167) (some (164, false)) (.k (.cmp .eql .i64 (.tmp 166) (.const (.int .i64 16)))), .mk (some 168) (some (164, false)) (.k (.mov (.tmp 167))), .mk (some 169) (some (168, true)) (.k (.mov (.tmp 9))), .mk (some 170) (some (168, true)) (.k (.mov (.tmp 10))), .mk (some 171) (some (168, true)) (.k (.cmp .lss .u64 (.tmp 169) (.tmp 170))), .mk (some 172) (some (164, false)) (.k (.pick (.tmp 168) (.tmp 171) (.const (.bool false)))), .mk (some 173) none (.k (.pick (.tmp 164) (.const (.bool true)) (.tmp 172)))]) (.cond (.tmp 173) (.ref 21) .skip)
def T92n23 : XC := .seq (.ops [.mk (some 138) none (.k (.mov (.tmp 2))), .mk (some 139) none (.k (.arith .add .i64 (.tmp 138) (.const (.int .i64 1)))), .mk (some 140) none (.k (.build [.int .i64 0, .int .i64 0, .int .i64 0, .int .u64 0, .int .u64 0] [(0, 1, .const (.int .i64 2)), (1, 1, .tmp 139)])), .mk none none (.k (.store 5 (.tmp 12) (.tmp 140)))]) (.ref 22)
def T92n24 : XC := .ops [.mk (some 188) none (.k (.mov (.tmp 2))), .mk (some 189) none (.k (.arith .add .i64 (.tmp 188) (.const (.int .i64 1)))), .mk (some 190) none (.k (.build [.int .i64 0, .int .i64 0, .int .i64 0, .int .u64 0, .int .u64 0] [(0, 1, .const (.int .i64 5)), (1, 1, .tmp 189)])), .mk none none (.k (.store 5 (.tmp 12) (.tmp 190)))]
def T92n25 : XC := .ops [.mk (some 193) none (.k (.mov (.tmp 2))), .mk (some 194) none (.k (.arith .add .i64 (.tmp 193) (.const (.int .i64 1)))), .mk (some 195) none (.k (.build [.int .i64 0, .int .i64 0, .int .i64 0, .int .u64 0, .int .u64 0] [(0, 1, .const (.int .i64 6)), (1, 1, .tmp 194)])), .mk none none (.k (.store 5 (.tmp 12) (.tmp 195)))]
def T92n26 : XC := .ops [.mk (some 60) none (.k (.mov (.tmp 2))), .mk (some 61) none (.k (.arith .add .i64 (.tmp 60) (.const (.int .i64 1)))), .mk (some 62) none (.k (.build [.int .i64 0, .int .i64 0, .int .i64 0, .int .u64 0, .int .u64 0] [(0, 1, .const (.int .i64 7)), (1, 1, .tmp 61)])), .mk none none (.k (.store 5 (.tmp 12) (.tmp 62)))]
def T92n27 : XC := .seq (.ops [.mk (some 192) none (.k (.cmp .eql .i64 (.tmp 59) (.const (.int .i64 18)))), .mk (some 191) none (.k (.mov (.tmp 192)))]) (.cond (.tmp 191) (.ref 25) (.ref 26))
def T92n28 : XC := .seq (.ops [.mk (some 187) none (.k (.cmp .eql .i64 (.tmp 59) (.const (.int .i64 17)))), .mk (some 186) none (.k (.mov (.tmp 187)))]) (.cond (.tmp 186) (.ref 24) (.ref 27))
def T92n29 : XC := .seq (.seq (.ops [.mk (some 134) none (.k (.cmp .eql .i64 (.tmp 59) (.const (.int .i64 13)))), .mk (some 133) none (.k (.mov (.tmp 134)))]) (.cond (.tmp 133) .skip (.ref 18))) (.cond (.tmp 133) (.ref 23) (.ref 28))
def T92n30 : XC := .seq (.ops [.mk (some 123) none (.k (.cmp .eql .i64 (.tmp 59) (.const (.int .i64 12)))), .mk (some 122) none (.k (.mov (.tmp 123)))]) (.cond (.tmp 122) (.ref 15) (.ref 29))
def T92n31 : XC := .seq (.ops [.mk (some 114) none (.k (.cmp .eql .i64 (.tmp 59) (.const (.int .i64 11)))), .mk (some 113) none (.k (.mov (.tmp 114)))]) (.cond (.tmp 113) (.ref 14) (.ref 30))
def T92n32 : XC := .seq (.seq (.ops [.mk (some 104) none (.k (.cmp .eql .i64 (.tmp 59) (.const (.int .i64 9)))), .mk (some 103) none (.k (.mov (.tmp 104)))]) (.ref 11)) (.cond (.tmp 103) (.ref 12) (.ref 31))
def T92n33 : XC := .seq (.ops [.mk (some 98) none (.k (.cmp .eql .i64 (.tmp 59) (.const (.int .i64 8)))), .mk (some 97) none (.k (.mov (.tmp 98)))]) (.cond (.tmp 97) (.ref 10) (.ref 32))
def T92n34 : XC := .seq (.ops [.mk (some 92) none (.k (.cmp .eql .i64 (.tmp 59) (.const (.int .i64 7)))), .mk (some 91) none (.k (.mov (.tmp 92)))]) (.cond (.tmp 91) (.ref 9) (.ref 33))
def T92n35 : XC := .seq (.ops [.mk (some 86) none (.k (.cmp .eql .i64 (.tmp 59) (.const (.int .i64 6)))), .mk (some 85) none (.k (.mov (.tmp 86)))]) (.cond (.tmp 85) (.ref 8) (.ref 34))
def T92n36 : XC := .seq (.ops [.mk (some 80) none (.k (.cmp .eql .i64 (.tmp 59) (.const (.int .i64 5)))), .mk (some 79) none (.k (.mov (.tmp 80)))]) (.cond (.tmp 79) (.ref 7) (.ref 35))
def T92n37 : XC := .seq (.ops [.mk (some 74) none (.k (.cmp .eql .i64 (.tmp 59) (.const (.int .i64 4)))), .mk (some 73) none (.k (.mov (.tmp 74)))]) (.cond (.tmp 73) (.ref 6) (.ref 36))
def T92n38 : XC := .seq (.ops [.mk (some 70) none (.k (.cmp .eql .i64 (.tmp 59) (.const (.int .i64 3)))), .mk (some 69) none (.k (.mov (.tmp 70)))]) (.cond (.tmp 69) (.ref 5) (.ref 37))
def T92n39 : XC := .blk 0 (.seq (.ops [.mk (some 64) none (.k (.cmp .eql .i64 (.tmp 59) (.const (.int .i64 2)))), .mk (some 63) none (.k (.mov (.tmp 64)))]) (.cond (.tmp 63) (.ref 4) (.ref 38)))
def T92n40 : XC := .seq (.ops [.mk (some 196) none (.k (.load [.int .i64, .int .i64, .int .i64, .int .u64, .int .u64] true (.tmp 12))), .mk none none (.k (.store 5 (.tmp 6) (.tmp 196)))]) .ret
def T92n41 : XC := .seq (.seq (.ops [.mk (some 58) none (.k (.fld 0 (.tmp 3))), .mk (some 59) none (.k (.load [.int .i64] false (.tmp 58)))]) (.ref 39)) (.ref 40)
def T92n42 : XC := .seq (.ops [.mk (some 53) none (.k (.mov (.tmp 2))), .mk (some 54) none (.k (.arith .add .i64 (.tmp 53) (.const (.int .i64 1)))), .mk (some 55) none (.k (.fld 1 (.tmp 3))), .mk (some 56) none (.k (.load [.int .i64] false (.tmp 55))), .mk (some 57) none (.k (.build [.int .i64 0, .int .i64 0, .int .i64 0, .int .u64 0, .int .u64 0] [(0, 1, .const (.int .i64 1)), (1, 1, .tmp 54), (2, 1, .tmp 56)])), .mk (some 12) none (.k (.alloc 54 [.int .i64 0, .int .i64 0, .int .i64 0, .int .u64 0, .int .u64 0])), .mk none none (.k (.store 5 (.tmp 12) (.tmp 57)))]) (.ref 41)
def T92n43 : XC := .seq (.seq (.ops [.mk (some 47) none (.k (.fld 3 (.tmp 7))), .mk (some 48) none (.k (.load [.bool] false (.tmp 47)))]) (.cond (.tmp 48) (.ref 3) .skip)) (.ref 42)
def T92n44 : XC := .seq (.seq (.ops [.mk (some 41) none (.k (.fld 2 (.tmp 7))), .mk (some 42) none (.k (.load [.bool] false (.tmp 41)))]) (.cond (.tmp 42) (.ref 2) .skip)) (.ref 43)
def T92n45 : XC := .seq (.seq (.ops [.mk (some 35) none (.k (.fld 1 (.tmp 7))), .mk (some 36) none (.k (.load [.bool] false (.tmp 35)))]) (.cond (.tmp 36) (.ref 1) .skip)) (.ref 44)
def T92n46 : XC := .seq (.ops [.mk (some 9) none (.k (.mov (.const (.int .u64 0)))), .mk (some 10) none (.k (.mov (.const (.int .u64 0)))), .mk (some 11) none (.k (.mov (.const (.int .u64 0))))]) (.ref 45)
def T92n47 : XC := .seq (.seq (.ops [.mk (some 19) none (.k (.mov (.tmp 8))), .mk (some 20) none (.k (.not (.tmp 19))), .mk (some 21) none (.k (.mov (.tmp 20))), .mk (some 22) (some (21, false)) (.k (.load [.int .i64, .int .i64, .int .i64, .int .i64, .int .i64] true (.tmp 3))), .mk (some 23) (some (21, false)) (.call 90 [.tmp 22]), .mk (some 24) (some (21, false)) (.k (.not (.tmp 23))), .mk (some 25) none (.k (.pick (.tmp 21) (.const (.bool true)) (.tmp 24))), .mk (some 26) none (.k (.mov (.tmp 25))), .mk (some 27) (some (26, false)) (.k (.mov (.tmp 2))), .mk (some 28) (some (26, false)) (.k (.cmp .lss .i64 (.tmp 27) (.const (.int .i64 0)))), .mk (some 29) none (.k (.pick (.tmp 26) (.const (.bool true)) (.tmp 28))), .mk (some 30) none (.k (.mov (.tmp 29))), .mk (some 31) (some (30, false)) (.k (.mov (.tmp 2))), .mk (some 32) (some (30, false)) (.k (.cmp .geq .i64 (.tmp 31) (.const (.int .i64 1024)))), .mk (some 33) none (.k (.pick (.tmp 30) (.const (.bool true)) (.tmp 32)))]) (.cond (.tmp 33) (.ref 0) .skip)) (.ref 46)
def T92n48 : XC := .seq (.ops [.mk (some 14) none (.k (.fld 0 (.tmp 3))), .mk (some 15) none (.k (.load [.int .i64] false (.tmp 14))), .mk (some 16) none (.call 119 [.tmp 15]), .mk (some 13) none (.k (.mov (.tmp 16))), .mk (some 17) none (.k (.ext (.tmp 13) 0)), .mk (some 18) none (.k (.ext (.tmp 13) 1)), .mk (some 7) none (.k (.alloc 172 [.string (ByteArray.mk (Array.mk [])), .bool false, .bool false, .bool false, .bool false])), .mk none none (.k (.store 5 (.tmp 7) (.tmp 17))), .mk (some 8) none (.k (.mov (.tmp 18)))]) (.ref 47)
def T92 : Nat → XC
 | 0 => T92n0
 | 1 => T92n1
 | 2 => T92n2
 | 3 => T92n3
 | 4 => T92n4
 | 5 => T92n5
 | 6 => T92n6
 | 7 => T92n7
 | 8 => T92n8
 | 9 => T92n9
 | 10 => T92n10
 | 11 => T92n11
 | 12 => T92n12
 | 13 => T92n13
 | 14 => T92n14
 | 15 => T92n15
 | 16 => T92n16
 | 17 => T92n17
 | 18 => T92n18
 | 19 => T92n19
 | 20 => T92n20
 | 21 => T92n21
 | 22 => T92n22
 | 23 => T92n23
 | 24 => T92n24
 | 25 => T92n25
 | 26 => T92n26
 | 27 => T92n27
 | 28 => T92n28
 | 29 => T92n29
 | 30 => T92n30
 | 31 => T92n31
 | 32 => T92n32
 | 33 => T92n33
 | 34 => T92n34
 | 35 => T92n35
 | 36 => T92n36
 | 37 => T92n37
 | 38 => T92n38
 | 39 => T92n39
 | 40 => T92n40
 | 41 => T92n41
 | 42 => T92n42
 | 43 => T92n43
 | 44 => T92n44
 | 45 => T92n45
 | 46 => T92n46
 | 47 => T92n47
 | 48 => T92n48
 | _ => .skip
theorem t92n0 : T92 0 = T92n0 := rfl
theorem t92n1 : T92 1 = T92n1 := rfl
theorem t92n2 : T92 2 = T92n2 := rfl
theorem t92n3 : T92 3 = T92n3 := rfl
theorem t92n4 : T92 4 = T92n4 := rfl
theorem t92n5 : T92 5 = T92n5 := rfl
theorem t92n6 : T92 6 = T92n6 := rfl
theorem t92n7 : T92 7 = T92n7 := rfl
theorem t92n8 : T92 8 = T92n8 := rfl
theorem t92n9 : T92 9 = T92n9 := rfl
theorem t92n10 : T92 10 = T92n10 := rfl
theorem t92n11 : T92 11 = T92n11 := rfl
theorem t92n12 : T92 12 = T92n12 := rfl
theorem t92n13 : T92 13 = T92n13 := rfl
theorem t92n14 : T92 14 = T92n14 := rfl
theorem t92n15 : T92 15 = T92n15 := rfl
theorem t92n16 : T92 16 = T92n16 := rfl
theorem t92n17 : T92 17 = T92n17 := rfl
theorem t92n18 : T92 18 = T92n18 := rfl
theorem t92n19 : T92 19 = T92n19 := rfl
theorem t92n20 : T92 20 = T92n20 := rfl
theorem t92n21 : T92 21 = T92n21 := rfl
theorem t92n22 : T92 22 = T92n22 := rfl
theorem t92n23 : T92 23 = T92n23 := rfl
theorem t92n24 : T92 24 = T92n24 := rfl
theorem t92n25 : T92 25 = T92n25 := rfl
theorem t92n26 : T92 26 = T92n26 := rfl
theorem t92n27 : T92 27 = T92n27 := rfl
theorem t92n28 : T92 28 = T92n28 := rfl
theorem t92n29 : T92 29 = T92n29 := rfl
theorem t92n30 : T92 30 = T92n30 := rfl
theorem t92n31 : T92 31 = T92n31 := rfl
theorem t92n32 : T92 32 = T92n32 := rfl
theorem t92n33 : T92 33 = T92n33 := rfl
theorem t92n34 : T92 34 = T92n34 := rfl
theorem t92n35 : T92 35 = T92n35 := rfl
theorem t92n36 : T92 36 = T92n36 := rfl
theorem t92n37 : T92 37 = T92n37 := rfl
theorem t92n38 : T92 38 = T92n38 := rfl
theorem t92n39 : T92 39 = T92n39 := rfl
theorem t92n40 : T92 40 = T92n40 := rfl
theorem t92n41 : T92 41 = T92n41 := rfl
theorem t92n42 : T92 42 = T92n42 := rfl
theorem t92n43 : T92 43 = T92n43 := rfl
theorem t92n44 : T92 44 = T92n44 := rfl
theorem t92n45 : T92 45 = T92n45 := rfl
theorem t92n46 : T92 46 = T92n46 := rfl
theorem t92n47 : T92 47 = T92n47 := rfl
theorem t92n48 : T92 48 = T92n48 := rfl
def X92 : XC := .seq (.ops [.mk (some 3) none (.k (.box 41 5 (.tmp 0))), .mk (some 4) none (.k (.box 50 8 (.tmp 1))), .mk (some 6) none (.k (.alloc 54 [.int .i64 0, .int .i64 0, .int .i64 0, .int .u64 0, .int .u64 0]))]) (.ref 48)
abbrev K92 : List Nat := [0, 1, 2, 3, 4, 6, 7, 8, 9, 10, 11, 12, 33, 36, 42, 48, 59, 63, 69, 73, 79, 85, 91, 97, 103, 113, 122, 133, 173, 184, 186, 191]
theorem n92 : Tryz.f92.ntmps = 197 := by kernel_rfl
theorem r92 : rvOf Tryz.prog Tryz.f92.results.toList = some [RV.cell 6 5 true] := by kernel_rfl
theorem x92 : cmpF Tryz.prog Tryz.f92 = some (expand T92 50 X92) := by kernel_rfl
def T121n0 : XC := .ops [.mk (some 15) none (.k (.mov (.tmp 0))), .mk (some 16) none (.k (.mov (.tmp 0))), .mk (some 17) none (.k (.arith .add .u64 (.tmp 15) (.tmp 16))), .mk (some 0) none (.k (.mov (.tmp 17)))]
def T121n1 : XC := .ops [.mk (some 18) none (.k (.mov (.tmp 0))), .mk (some 19) none (.k (.div .quo .u64 (.tmp 18) (.const (.int .u64 2)))), .mk (some 0) none (.k (.mov (.tmp 19)))]
def T121n2 : XC := .ops [.mk (some 12) none (.k (.mov (.tmp 7))), .mk (some 13) none (.k (.arith .add .u64 (.tmp 12) (.const (.int .u64 1)))), .mk (some 7) none (.k (.mov (.tmp 13)))]
def T121n3 : XC := .seq (.blk 1 (.seq (.ops [.mk (some 14) none (.k (.mov (.tmp 2)))]) (.cond (.tmp 14) (.ref 0) (.ref 1)))) (.ref 2)
def T121n4 : XC := .seq (.seq (.ops [.mk (some 8) none (.k (.mov (.tmp 7))), .mk (some 9) none (.k (.mov (.tmp 1))), .mk (some 10) none (.k (.div .rem .u64 (.tmp 9) (.const (.int .u64 64)))), .mk (some 11) none (.k (.cmp .lss .u64 (.tmp 8) (.tmp 10)))]) (.cond (.tmp 11) .skip (.exit 0))) (.ref 3)
def T121n5 : XC := .seq (.ops [.mk (some 20) none (.k (.mov (.tmp 0))), .mk (some 6) none (.k (.mov (.tmp 20)))]) .ret
def T121n6 : XC := .seq (.seq (.ops [.mk (some 7) none (.k (.mov (.const (.int .u64 0))))]) (.blk 0 (.loop (.ref 4)))) (.ref 5)
def T121 : Nat → XC
 | 0 => T121n0
 | 1 => T121n1
 | 2 => T121n2
 | 3 => T121n3
 | 4 => T121n4
 | 5 => T121n5
 | 6 => T121n6
 | _ => .skip
theorem t121n0 : T121 0 = T121n0 := rfl
theorem t121n1 : T121 1 = T121n1 := rfl
theorem t121n2 : T121 2 = T121n2 := rfl
theorem t121n3 : T121 3 = T121n3 := rfl
theorem t121n4 : T121 4 = T121n4 := rfl
theorem t121n5 : T121 5 = T121n5 := rfl
theorem t121n6 : T121 6 = T121n6 := rfl
def X121 : XC := .seq (.ops [.mk (some 6) none (.k (.mov (.const (.int .u64 0))))]) (.ref 6)
abbrev K121 : List Nat := [0, 1, 2, 6, 7, 11, 14]
theorem n121 : Tryz.f121.ntmps = 21 := by kernel_rfl
theorem r121 : resT Tryz.f121.results.toList = some [6] := by kernel_rfl
theorem x121 : cmpF Tryz.prog Tryz.f121 = some (expand T121 8 X121) := by kernel_rfl
end Go.Proofs.YtlbiogokpadaoaaGreatDoor
