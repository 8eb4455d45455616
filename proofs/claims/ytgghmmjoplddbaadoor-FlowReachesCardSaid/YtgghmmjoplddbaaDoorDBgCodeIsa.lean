/- Printed by program: the small code of functions, and that it is theirs. -/
import Derived.Test.YtgghmmjoplddbaaDoorSxStill
import Derived.Test.YtgghmmjoplddbaaDoorProg
import Derived.KernelRfl
set_option linter.unusedSimpArgs false
set_option linter.unusedVariables false
set_option linter.unnecessarySimpa false
namespace Go.Proofs.YtgghmmjoplddbaaDoor
open Go Go.Sx
set_option maxRecDepth 100000
def T24n0 : XC := .seq (.ops [.mk (some 2) none (.k (.mov (.const (.bool false))))]) .ret
def T24n1 : XC := .seq (.ops [.mk (some 24) none (.k (.mov (.tmp 3))), .mk (some 25) none (.k (.mov (.tmp 5))), .mk (some 26) none (.k (.ixT (.const (.string (ByteArray.mk (Array.mk [UInt8.ofNat 65, UInt8.ofNat 66, UInt8.ofNat 67])))) (.tmp 25))), .mk (some 27) none (.call 48 [.tmp 24, .tmp 26]), .mk (some 28) none (.k (.cmp .geq .i64 (.tmp 27) (.const (.int .i64 0)))), .mk (some 29) none (.k (.mov (.tmp 28))), .mk (some 30) (some (29, true)) (.k (.mov (.tmp 6))), .mk (some 31) (some (29, true)) (.k (.cmp .lss .i64 (.tmp 30) (.const (.int .i64 0)))), .mk (some 32) (some (29, true)) (.k (.mov (.tmp 31))), .mk (some 33) (some (32, false)) (.k (.mov (.tmp 6))), .mk (some 34) (some (32, false)) (.k (.cmp .geq .i64 (.tmp 33) (.const (.int .i64 8)))), .mk (some 35) (some (29, true)) (.k (.pick (.tmp 32) (.const (.bool true)) (.tmp 34))), .mk (some 36) none (.k (.pick (.tmp 29) (.tmp 35) (.const (.bool false))))]) (.cond (.tmp 36) (.ref 0) .skip)
def T24n2 : XC := .seq (.blk 1 (.seq (.ops [.mk (some 22) none (.k (.mov (.tmp 20))), .mk (some 23) none (.k (.ixA 3 1 false (.tmp 19) (.tmp 20))), .mk (some 5) none (.k (.mov (.tmp 22))), .mk (some 6) none (.k (.mov (.tmp 23)))]) (.ref 1))) (.ops [.mk (some 37) none (.k (.arith .add .i64 (.tmp 20) (.const (.int .i64 1)))), .mk (some 20) none (.k (.mov (.tmp 37)))])
def T24n3 : XC := .seq (.cond (.tmp 21) .skip (.exit 0)) (.ref 2)
def T24n4 : XC := .seq (.ops [.mk (some 21) none (.k (.cmp .lss .i64 (.tmp 20) (.const (.int .i64 3))))]) (.ref 3)
def T24n5 : XC := .seq (.ops [.mk (some 38) none (.k (.mov (.tmp 4))), .mk (some 2) none (.k (.mov (.tmp 38)))]) .ret
def T24n6 : XC := .seq (.seq (.ops [.mk (some 13) none (.k (.fld 1 (.tmp 1))), .mk (some 14) none (.k (.load [.int .i64] false (.tmp 13))), .mk (some 15) none (.k (.fld 2 (.tmp 1))), .mk (some 16) none (.k (.load [.int .i64] false (.tmp 15))), .mk (some 17) none (.k (.fld 3 (.tmp 1))), .mk (some 18) none (.k (.load [.int .i64] false (.tmp 17))), .mk (some 19) none (.k (.build [.int .i64 0, .int .i64 0, .int .i64 0] [(0, 1, .tmp 14), (1, 1, .tmp 16), (2, 1, .tmp 18)])), .mk (some 20) none (.k (.mov (.const (.int .i64 0))))]) (.blk 0 (.loop (.ref 4)))) (.ref 5)
def T24n7 : XC := .seq (.ops [.mk (some 8) none (.k (.fld 0 (.tmp 1))), .mk (some 9) none (.k (.load [.int .i64] false (.tmp 8))), .mk (some 10) none (.call 47 [.tmp 9]), .mk (some 7) none (.k (.mov (.tmp 10))), .mk (some 11) none (.k (.ext (.tmp 7) 0)), .mk (some 12) none (.k (.ext (.tmp 7) 1)), .mk (some 3) none (.k (.mov (.tmp 11))), .mk (some 4) none (.k (.mov (.tmp 12)))]) (.ref 6)
def T24 : Nat → XC
 | 0 => T24n0
 | 1 => T24n1
 | 2 => T24n2
 | 3 => T24n3
 | 4 => T24n4
 | 5 => T24n5
 | 6 => T24n6
 | 7 => T24n7
 | _ => .skip
theorem t24n0 : T24 0 = T24n0 := rfl
theorem t24n1 : T24 1 = T24n1 := rfl
theorem t24n2 : T24 2 = T24n2 := rfl
theorem t24n3 : T24 3 = T24n3 := rfl
theorem t24n4 : T24 4 = T24n4 := rfl
theorem t24n5 : T24 5 = T24n5 := rfl
theorem t24n6 : T24 6 = T24n6 := rfl
theorem t24n7 : T24 7 = T24n7 := rfl
def X24 : XC := .seq (.ops [.mk (some 1) none (.k (.box 37 5 (.tmp 0))), .mk (some 2) none (.k (.mov (.const (.bool false))))]) (.ref 7)
abbrev K24 : List Nat := [0, 1, 2, 3, 4, 5, 6, 19, 20, 21, 36]
theorem n24 : Tryd.f24.ntmps = 39 := by kernel_rfl
theorem r24 : resT Tryd.f24.results.toList = some [2] := by kernel_rfl
theorem x24 : cmpF Tryd.prog Tryd.f24 = some (expand T24 9 X24) := by kernel_rfl
def T47n0 : XC := .seq (.ops [.mk (some 2) none (.k (.mov (.const (.string (ByteArray.mk (Array.mk [])))))), .mk (some 3) none (.k (.mov (.const (.bool false))))]) .ret
def T47n1 : XC := .seq (.ops [.mk (some 10) none (.k (.mov (.tmp 0))), .mk (some 11) none (.k (.idxA 19 2 (.global 0) (.tmp 10))), .mk (some 12) none (.k (.fld 1 (.tmp 11))), .mk (some 13) none (.k (.load [.str] false (.tmp 12))), .mk (some 2) none (.k (.mov (.tmp 13))), .mk (some 3) none (.k (.mov (.const (.bool true))))]) .ret
def T47n2 : XC := .seq (.seq (.ops [.mk (some 4) none (.k (.mov (.tmp 0))), .mk (some 5) none (.k (.cmp .lss .i64 (.tmp 4) (.const (.int .i64 1)))), .mk (some 6) none (.k (.mov (.tmp 5))), .mk (some 7) (some (6, false)) (.k (.mov (.tmp 0))), .mk (some 8) (some (6, false)) (.k (.cmp .geq .i64 (.tmp 7) (.const (.int .i64 19)))), .mk (some 9) none (.k (.pick (.tmp 6) (.const (.bool true)) (.tmp 8)))]) (.cond (.tmp 9) (.ref 0) .skip)) (.ref 1)
def T47 : Nat → XC
 | 0 => T47n0
 | 1 => T47n1
 | 2 => T47n2
 | _ => .skip
theorem t47n0 : T47 0 = T47n0 := rfl
theorem t47n1 : T47 1 = T47n1 := rfl
theorem t47n2 : T47 2 = T47n2 := rfl
def X47 : XC := .seq (.ops [.mk (some 2) none (.k (.mov (.const (.string (ByteArray.mk (Array.mk [])))))), .mk (some 3) none (.k (.mov (.const (.bool false))))]) (.ref 2)
abbrev K47 : List Nat := [0, 2, 3, 9]
theorem n47 : Tryd.f47.ntmps = 14 := by kernel_rfl
theorem r47 : resT Tryd.f47.results.toList = some [2, 3] := by kernel_rfl
theorem x47 : cmpF Tryd.prog Tryd.f47 = some (expand T47 4 X47) := by kernel_rfl
def T48n0 : XC := .seq (.ops [.mk (some 5) none (.k (.mov (.tmp 0))), .mk (some 6) none (.k (.mov (.tmp 1))), .mk (some 7) none (.call 62 [.tmp 5, .tmp 6]), .mk (some 4) none (.k (.mov (.tmp 7)))]) .ret
def T48 : Nat → XC
 | 0 => T48n0
 | _ => .skip
theorem t48n0 : T48 0 = T48n0 := rfl
def X48 : XC := .seq (.ops [.mk (some 4) none (.k (.mov (.const (.int .i64 0))))]) (.ref 0)
abbrev K48 : List Nat := [0, 1, 4]
theorem n48 : Tryd.f48.ntmps = 8 := by kernel_rfl
theorem r48 : resT Tryd.f48.results.toList = some [4] := by kernel_rfl
theorem x48 : cmpF Tryd.prog Tryd.f48 = some (expand T48 2 X48) := by kernel_rfl
def T62n0 : XC := .seq (.ops [.mk (some 5) none (.k (.mov (.tmp 0))), .mk (some 6) none (.k (.mov (.tmp 1))), .mk (some 7) none (.k (.lib 0 [.tmp 5, .tmp 6])), .mk (some 4) none (.k (.mov (.tmp 7)))]) .ret
def T62 : Nat → XC
 | 0 => T62n0
 | _ => .skip
theorem t62n0 : T62 0 = T62n0 := rfl
def X62 : XC := .seq (.ops [.mk (some 4) none (.k (.mov (.const (.int .i64 0))))]) (.ref 0)
abbrev K62 : List Nat := [0, 1, 4]
theorem n62 : Tryd.f62.ntmps = 8 := by kernel_rfl
theorem r62 : resT Tryd.f62.results.toList = some [4] := by kernel_rfl
theorem x62 : cmpF Tryd.prog Tryd.f62 = some (expand T62 2 X62) := by kernel_rfl
def T35n0 : XC := .seq (.ops [.mk (some 11) none (.k (.mov (.tmp 4))), .mk (some 12) none (.k (.mov (.tmp 11))), .mk (some 13) (some (12, true)) (.k (.fld 1 (.tmp 3))), .mk (some 14) (some (12, true)) (.k (.load [.bool] false (.tmp 13))), .mk (some 15) (some (12, true)) (.k (.not (.tmp 14))), .mk (some 16) (some (12, true)) (.k (.mov (.tmp 15))), .mk (some 17) (some (16, false)) (.k (.fld 1 (.tmp 1))), .mk (some 18) (some (16, false)) (.k (.load [.int .i64] false (.tmp 17))), .mk (some 19) (some (16, false)) (.call 55 [.tmp 18]), .mk (some 20) (some (12, true)) (.k (.pick (.tmp 16) (.const (.bool true)) (.tmp 19))), .mk (some 21) none (.k (.pick (.tmp 12) (.tmp 20) (.const (.bool false)))), .mk (some 22) none (.k (.mov (.tmp 21))), .mk (some 23) (some (22, true)) (.k (.fld 2 (.tmp 3))), .mk (some 24) (some (22, true)) (.k (.load [.bool] false (.tmp 23))), .mk (some 25) (some (22, true)) (.k (.not (.tmp 24))), .mk (some 26) (some (22, true)) (.k (.mov (.tmp 25))), .mk (some 27) (some (26, false)) (.k (.fld 2 (.tmp 1))), .mk (some 28) (some (26, false)) (.k (.load [.int .i64] false (.tmp 27))), .mk (some 29) (some (26, false)) (.call 55 [.tmp 28]), .mk (some 30) (some (22, true)) (.k (.pick (.tmp 26) (.const (.bool true)) (.tmp 29))), .mk (some 31) none (.k (.pick (.tmp 22) (.tmp 30) (.const (.bool false)))), .mk (some 32) none (.k (.mov (.tmp 31))), .mk (some 33) (some (32, true)) (.k (.fld 3 (.tmp 3))), .mk (some 34) (some (32, true)) (.k (.load [.bool] false (.tmp 33))), .mk (some 35) (some (32, true)) (.k (.not (.tmp 34))), .mk (some 36) (some (32, true)) (.k (.mov (.tmp 35))), .mk (some 37) (some (36, false)) (.k (.fld 3 (.tmp 1))), .mk (some 38) (some (36, false)) (.k (.load [.int .i64] false (.tmp 37))), .mk (some 39) (some (36, false)) (.call 55 [.tmp 38]), .mk (some 40) (some (32, true)) (.k (.pick (.tmp 36) (.const (.bool true)) (.tmp 39))), .mk (some 41) none (.k (.pick (.tmp 32) (.tmp 40) (.const (.bool false)))), .mk (some 2) none (.k (.mov (.tmp 41)))]) .ret
def T35n1 : XC := .seq (.ops [.mk (some 6) none (.k (.fld 0 (.tmp 1))), .mk (some 7) none (.k (.load [.int .i64] false (.tmp 6))), .mk (some 8) none (.call 54 [.tmp 7]), .mk (some 5) none (.k (.mov (.tmp 8))), .mk (some 9) none (.k (.ext (.tmp 5) 0)), .mk (some 10) none (.k (.ext (.tmp 5) 1)), .mk (some 3) none (.k (.alloc 111 [.string (ByteArray.mk (Array.mk [])), .bool false, .bool false, .bool false, .bool false])), .mk none none (.k (.store 5 (.tmp 3) (.tmp 9))), .mk (some 4) none (.k (.mov (.tmp 10)))]) (.ref 0)
def T35 : Nat → XC
 | 0 => T35n0
 | 1 => T35n1
 | _ => .skip
theorem t35n0 : T35 0 = T35n0 := rfl
theorem t35n1 : T35 1 = T35n1 := rfl
def X35 : XC := .seq (.ops [.mk (some 1) none (.k (.box 37 5 (.tmp 0))), .mk (some 2) none (.k (.mov (.const (.bool false))))]) (.ref 1)
abbrev K35 : List Nat := [0, 1, 2, 3, 4]
theorem n35 : Tryd.f35.ntmps = 42 := by kernel_rfl
theorem r35 : resT Tryd.f35.results.toList = some [2] := by kernel_rfl
theorem x35 : cmpF Tryd.prog Tryd.f35 = some (expand T35 3 X35) := by kernel_rfl
def T54n0 : XC := .seq (.ops [.mk (some 9) none (.k (.build [.string (ByteArray.mk (Array.mk [])), .bool false, .bool false, .bool false, .bool false] [(0, 1, .const (.string (ByteArray.mk (Array.mk [UInt8.ofNat 104, UInt8.ofNat 97, UInt8.ofNat 108, UInt8.ofNat 116]))))])), .mk none none (.k (.store 5 (.tmp 2) (.tmp 9))), .mk (some 3) none (.k (.mov (.const (.bool true))))]) .ret
def T54n1 : XC := .seq (.ops [.mk (some 12) none (.k (.build [.string (ByteArray.mk (Array.mk [])), .bool false, .bool false, .bool false, .bool false] [(0, 1, .const (.string (ByteArray.mk (Array.mk [UInt8.ofNat 115, UInt8.ofNat 101, UInt8.ofNat 116])))), (1, 1, .const (.bool true)), (4, 1, .const (.bool true))])), .mk none none (.k (.store 5 (.tmp 2) (.tmp 12))), .mk (some 3) none (.k (.mov (.const (.bool true))))]) .ret
def T54n2 : XC := .seq (.ops [.mk (some 15) none (.k (.build [.string (ByteArray.mk (Array.mk [])), .bool false, .bool false, .bool false, .bool false] [(0, 1, .const (.string (ByteArray.mk (Array.mk [UInt8.ofNat 109, UInt8.ofNat 111, UInt8.ofNat 118])))), (1, 1, .const (.bool true)), (2, 1, .const (.bool true))])), .mk none none (.k (.store 5 (.tmp 2) (.tmp 15))), .mk (some 3) none (.k (.mov (.const (.bool true))))]) .ret
def T54n3 : XC := .cond (.tmp 16) .skip (.ops [.mk (some 23) none (.k (.cmp .eql .i64 (.tmp 6) (.const (.int .i64 10)))), .mk (some 16) none (.k (.mov (.tmp 23)))])
def T54n4 : XC := .seq (.ops [.mk (some 22) none (.k (.cmp .eql .i64 (.tmp 6) (.const (.int .i64 9)))), .mk (some 16) none (.k (.mov (.tmp 22)))]) (.ref 3)
def T54n5 : XC := .seq (.ops [.mk (some 21) none (.k (.cmp .eql .i64 (.tmp 6) (.const (.int .i64 8)))), .mk (some 16) none (.k (.mov (.tmp 21)))]) (.cond (.tmp 16) .skip (.ref 4))
def T54n6 : XC := .seq (.ops [.mk (some 20) none (.k (.cmp .eql .i64 (.tmp 6) (.const (.int .i64 7)))), .mk (some 16) none (.k (.mov (.tmp 20)))]) (.cond (.tmp 16) .skip (.ref 5))
def T54n7 : XC := .seq (.ops [.mk (some 19) none (.k (.cmp .eql .i64 (.tmp 6) (.const (.int .i64 6)))), .mk (some 16) none (.k (.mov (.tmp 19)))]) (.cond (.tmp 16) .skip (.ref 6))
def T54n8 : XC := .seq (.ops [.mk (some 18) none (.k (.cmp .eql .i64 (.tmp 6) (.const (.int .i64 5)))), .mk (some 16) none (.k (.mov (.tmp 18)))]) (.cond (.tmp 16) .skip (.ref 7))
def T54n9 : XC := .seq (.ops [.mk (some 25) none (.k (.mov (.tmp 4))), .mk (some 26) none (.k (.mov (.tmp 0))), .mk (some 27) none (.k (.arith .sub .i64 (.tmp 26) (.const (.int .i64 4)))), .mk (some 28) none (.k (.idx 1 (.tmp 25) (.tmp 27))), .mk (some 29) none (.k (.load [.str] false (.tmp 28))), .mk (some 30) none (.k (.build [.string (ByteArray.mk (Array.mk [])), .bool false, .bool false, .bool false, .bool false] [(0, 1, .tmp 29), (1, 1, .const (.bool true)), (2, 1, .const (.bool true)), (3, 1, .const (.bool true))])), .mk none none (.k (.store 5 (.tmp 2) (.tmp 30))), .mk (some 3) none (.k (.mov (.const (.bool true))))]) .ret
def T54n10 : XC := .seq (.ops [.mk (some 24) none (.k (.buildS 9 7 1 [.string (ByteArray.mk (Array.mk []))] [(0, .const (.string (ByteArray.mk (Array.mk [UInt8.ofNat 97, UInt8.ofNat 100, UInt8.ofNat 100])))), (1, .const (.string (ByteArray.mk (Array.mk [UInt8.ofNat 115, UInt8.ofNat 117, UInt8.ofNat 98])))), (2, .const (.string (ByteArray.mk (Array.mk [UInt8.ofNat 109, UInt8.ofNat 117, UInt8.ofNat 108])))), (3, .const (.string (ByteArray.mk (Array.mk [UInt8.ofNat 97, UInt8.ofNat 110, UInt8.ofNat 100])))), (4, .const (.string (ByteArray.mk (Array.mk [UInt8.ofNat 120, UInt8.ofNat 111, UInt8.ofNat 114])))), (5, .const (.string (ByteArray.mk (Array.mk [UInt8.ofNat 115, UInt8.ofNat 104, UInt8.ofNat 108])))), (6, .const (.string (ByteArray.mk (Array.mk [UInt8.ofNat 115, UInt8.ofNat 104, UInt8.ofNat 114]))))])), .mk (some 4) none (.k (.mov (.tmp 24)))]) (.ref 9)
def T54n11 : XC := .cond (.tmp 31) .skip (.ops [.mk (some 36) none (.k (.cmp .eql .i64 (.tmp 6) (.const (.int .i64 16)))), .mk (some 31) none (.k (.mov (.tmp 36)))])
def T54n12 : XC := .seq (.ops [.mk (some 35) none (.k (.cmp .eql .i64 (.tmp 6) (.const (.int .i64 15)))), .mk (some 31) none (.k (.mov (.tmp 35)))]) (.ref 11)
def T54n13 : XC := .seq (.ops [.mk (some 34) none (.k (.cmp .eql .i64 (.tmp 6) (.const (.int .i64 14)))), .mk (some 31) none (.k (.mov (.tmp 34)))]) (.cond (.tmp 31) .skip (.ref 12))
def T54n14 : XC := .seq (.ops [.mk (some 33) none (.k (.cmp .eql .i64 (.tmp 6) (.const (.int .i64 12)))), .mk (some 31) none (.k (.mov (.tmp 33)))]) (.cond (.tmp 31) .skip (.ref 13))
def T54n15 : XC := .seq (.ops [.mk (some 38) none (.k (.mov (.tmp 5))), .mk (some 39) none (.k (.mov (.tmp 0))), .mk (some 40) none (.k (.arith .sub .i64 (.tmp 39) (.const (.int .i64 11)))), .mk (some 41) none (.k (.idx 1 (.tmp 38) (.tmp 40))), .mk (some 42) none (.k (.load [.str] false (.tmp 41))), .mk (some 43) none (.k (.build [.string (ByteArray.mk (Array.mk [])), .bool false, .bool false, .bool false, .bool false] [(0, 1, .tmp 42), (1, 1, .const (.bool true)), (2, 1, .const (.bool true)), (4, 1, .const (.bool true))])), .mk none none (.k (.store 5 (.tmp 2) (.tmp 43))), .mk (some 3) none (.k (.mov (.const (.bool true))))]) .ret
def T54n16 : XC := .seq (.ops [.mk (some 37) none (.k (.buildS 9 6 1 [.string (ByteArray.mk (Array.mk []))] [(0, .const (.string (ByteArray.mk (Array.mk [UInt8.ofNat 108, UInt8.ofNat 111, UInt8.ofNat 97, UInt8.ofNat 100])))), (1, .const (.string (ByteArray.mk (Array.mk [UInt8.ofNat 115, UInt8.ofNat 116, UInt8.ofNat 111, UInt8.ofNat 114, UInt8.ofNat 101])))), (2, .const (.string (ByteArray.mk (Array.mk [])))), (3, .const (.string (ByteArray.mk (Array.mk [UInt8.ofNat 101, UInt8.ofNat 113])))), (4, .const (.string (ByteArray.mk (Array.mk [UInt8.ofNat 110, UInt8.ofNat 101])))), (5, .const (.string (ByteArray.mk (Array.mk [UInt8.ofNat 108, UInt8.ofNat 116]))))])), .mk (some 5) none (.k (.mov (.tmp 37)))]) (.ref 15)
def T54n17 : XC := .seq (.ops [.mk (some 46) none (.k (.build [.string (ByteArray.mk (Array.mk [])), .bool false, .bool false, .bool false, .bool false] [(0, 1, .const (.string (ByteArray.mk (Array.mk [UInt8.ofNat 106, UInt8.ofNat 117, UInt8.ofNat 109, UInt8.ofNat 112])))), (4, 1, .const (.bool true))])), .mk none none (.k (.store 5 (.tmp 2) (.tmp 46))), .mk (some 3) none (.k (.mov (.const (.bool true))))]) .ret
def T54n18 : XC := .seq (.ops [.mk (some 49) none (.k (.build [.string (ByteArray.mk (Array.mk [])), .bool false, .bool false, .bool false, .bool false] [(0, 1, .const (.string (ByteArray.mk (Array.mk [UInt8.ofNat 98, UInt8.ofNat 101, UInt8.ofNat 103, UInt8.ofNat 105, UInt8.ofNat 110]))))])), .mk none none (.k (.store 5 (.tmp 2) (.tmp 49))), .mk (some 3) none (.k (.mov (.const (.bool true))))]) .ret
def T54n19 : XC := .seq (.ops [.mk (some 52) none (.k (.build [.string (ByteArray.mk (Array.mk [])), .bool false, .bool false, .bool false, .bool false] [(0, 1, .const (.string (ByteArray.mk (Array.mk [UInt8.ofNat 101, UInt8.ofNat 110, UInt8.ofNat 100]))))])), .mk none none (.k (.store 5 (.tmp 2) (.tmp 52))), .mk (some 3) none (.k (.mov (.const (.bool true))))]) .ret
def T54n20 : XC := .seq (.ops [.mk (some 51) none (.k (.cmp .eql .i64 (.tmp 6) (.const (.int .i64 18)))), .mk (some 50) none (.k (.mov (.tmp 51)))]) (.cond (.tmp 50) (.ref 19) .skip)
def T54n21 : XC := .seq (.ops [.mk (some 48) none (.k (.cmp .eql .i64 (.tmp 6) (.const (.int .i64 17)))), .mk (some 47) none (.k (.mov (.tmp 48)))]) (.cond (.tmp 47) (.ref 18) (.ref 20))
def T54n22 : XC := .seq (.ops [.mk (some 45) none (.k (.cmp .eql .i64 (.tmp 6) (.const (.int .i64 13)))), .mk (some 44) none (.k (.mov (.tmp 45)))]) (.cond (.tmp 44) (.ref 17) (.ref 21))
def T54n23 : XC := .seq (.seq (.ops [.mk (some 32) none (.k (.cmp .eql .i64 (.tmp 6) (.const (.int .i64 11)))), .mk (some 31) none (.k (.mov (.tmp 32)))]) (.cond (.tmp 31) .skip (.ref 14))) (.cond (.tmp 31) (.ref 16) (.ref 22))
def T54n24 : XC := .seq (.seq (.ops [.mk (some 17) none (.k (.cmp .eql .i64 (.tmp 6) (.const (.int .i64 4)))), .mk (some 16) none (.k (.mov (.tmp 17)))]) (.cond (.tmp 16) .skip (.ref 8))) (.cond (.tmp 16) (.ref 10) (.ref 23))
def T54n25 : XC := .seq (.ops [.mk (some 14) none (.k (.cmp .eql .i64 (.tmp 6) (.const (.int .i64 3)))), .mk (some 13) none (.k (.mov (.tmp 14)))]) (.cond (.tmp 13) (.ref 2) (.ref 24))
def T54n26 : XC := .seq (.ops [.mk (some 11) none (.k (.cmp .eql .i64 (.tmp 6) (.const (.int .i64 2)))), .mk (some 10) none (.k (.mov (.tmp 11)))]) (.cond (.tmp 10) (.ref 1) (.ref 25))
def T54n27 : XC := .blk 0 (.seq (.ops [.mk (some 8) none (.k (.cmp .eql .i64 (.tmp 6) (.const (.int .i64 1)))), .mk (some 7) none (.k (.mov (.tmp 8)))]) (.cond (.tmp 7) (.ref 0) (.ref 26)))
def T54n28 : XC := .seq (.ops [.mk (some 53) none (.k (.build [.string (ByteArray.mk (Array.mk [])), .bool false, .bool false, .bool false, .bool false] [])), .mk none none (.k (.store 5 (.tmp 2) (.tmp 53))), .mk (some 3) none (.k (.mov (.const (.bool false))))]) .ret
def T54n29 : XC := .seq (.seq (.ops [.mk (some 6) none (.k (.mov (.tmp 0)))]) (.ref 27)) (.ref 28)
def T54 : Nat → XC
 | 0 => T54n0
 | 1 => T54n1
 | 2 => T54n2
 | 3 => T54n3
 | 4 => T54n4
 | 5 => T54n5
 | 6 => T54n6
 | 7 => T54n7
 | 8 => T54n8
 | 9 => T54n9
 | 10 => T54n10
 | 11 => T54n11
 | 12 => T54n12
 | 13 => T54n13
 | 14 => T54n14
 | 15 => T54n15
 | 16 => T54n16
 | 17 => T54n17
 | 18 => T54n18
 | 19 => T54n19
 | 20 => T54n20
 | 21 => T54n21
 | 22 => T54n22
 | 23 => T54n23
 | 24 => T54n24
 | 25 => T54n25
 | 26 => T54n26
 | 27 => T54n27
 | 28 => T54n28
 | 29 => T54n29
 | _ => .skip
theorem t54n0 : T54 0 = T54n0 := rfl
theorem t54n1 : T54 1 = T54n1 := rfl
theorem t54n2 : T54 2 = T54n2 := rfl
theorem t54n3 : T54 3 = T54n3 := rfl
theorem t54n4 : T54 4 = T54n4 := rfl
theorem t54n5 : T54 5 = T54n5 := rfl
theorem t54n6 : T54 6 = T54n6 := rfl
theorem t54n7 : T54 7 = T54n7 := rfl
theorem t54n8 : T54 8 = T54n8 := rfl
theorem t54n9 : T54 9 = T54n9 := rfl
theorem t54n10 : T54 10 = T54n10 := rfl
theorem t54n11 : T54 11 = T54n11 := rfl
theorem t54n12 : T54 12 = T54n12 := rfl
theorem t54n13 : T54 13 = T54n13 := rfl
theorem t54n14 : T54 14 = T54n14 := rfl
theorem t54n15 : T54 15 = T54n15 := rfl
theorem t54n16 : T54 16 = T54n16 := rfl
theorem t54n17 : T54 17 = T54n17 := rfl
theorem t54n18 : T54 18 = T54n18 := rfl
theorem t54n19 : T54 19 = T54n19 := rfl
theorem t54n20 : T54 20 = T54n20 := rfl
theorem t54n21 : T54 21 = T54n21 := rfl
theorem t54n22 : T54 22 = T54n22 := rfl
theorem t54n23 : T54 23 = T54n23 := rfl
theorem t54n24 : T54 24 = T54n24 := rfl
theorem t54n25 : T54 25 = T54n25 := rfl
theorem t54n26 : T54 26 = T54n26 := rfl
theorem t54n27 : T54 27 = T54n27 := rfl
theorem t54n28 : T54 28 = T54n28 := rfl
theorem t54n29 : T54 29 = T54n29 := rfl
def X54 : XC := .seq (.ops [.mk (some 2) none (.k (.alloc 111 [.string (ByteArray.mk (Array.mk [])), .bool false, .bool false, .bool false, .bool false])), .mk (some 3) none (.k (.mov (.const (.bool false))))]) (.ref 29)
abbrev K54 : List Nat := [0, 2, 3, 4, 5, 6, 7, 10, 13, 16, 31, 44, 47, 50]
theorem n54 : Tryd.f54.ntmps = 54 := by kernel_rfl
theorem r54 : rvOf Tryd.prog Tryd.f54.results.toList = some [RV.cell 2 5 true, RV.tmp 3] := by kernel_rfl
theorem x54 : cmpF Tryd.prog Tryd.f54 = some (expand T54 31 X54) := by kernel_rfl
def T55n0 : XC := .seq (.ops [.mk (some 3) none (.k (.mov (.tmp 0))), .mk (some 4) none (.k (.cmp .geq .i64 (.tmp 3) (.const (.int .i64 0)))), .mk (some 5) none (.k (.mov (.tmp 4))), .mk (some 6) (some (5, true)) (.k (.mov (.tmp 0))), .mk (some 7) (some (5, true)) (.k (.cmp .lss .i64 (.tmp 6) (.const (.int .i64 8)))), .mk (some 8) none (.k (.pick (.tmp 5) (.tmp 7) (.const (.bool false)))), .mk (some 2) none (.k (.mov (.tmp 8)))]) .ret
def T55 : Nat → XC
 | 0 => T55n0
 | _ => .skip
theorem t55n0 : T55 0 = T55n0 := rfl
def X55 : XC := .seq (.ops [.mk (some 2) none (.k (.mov (.const (.bool false))))]) (.ref 0)
abbrev K55 : List Nat := [0, 2]
theorem n55 : Tryd.f55.ntmps = 9 := by kernel_rfl
theorem r55 : resT Tryd.f55.results.toList = some [2] := by kernel_rfl
theorem x55 : cmpF Tryd.prog Tryd.f55 = some (expand T55 2 X55) := by kernel_rfl
end Go.Proofs.YtgghmmjoplddbaaDoor
