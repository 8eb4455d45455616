/- Printed by program: the small code of functions, and that it is theirs. -/
import Derived.Test.YtgghmmjoplddbaaDoorSxStill
import Derived.Test.YtgghmmjoplddbaaDoorProg
import Derived.KernelRfl
set_option linter.unusedSimpArgs false
set_option linter.unusedVariables false
set_option linter.unnecessarySimpa false
namespace Go.Proofs.YtgghmmjoplddbaaDoor
open Go Go.Sx
set_option maxRecDepth 100000
def T19n0 : XC := .ops [.mk (some 27) none (.k (.load [.slc] false (.tmp 3))), .mk (some 28) none (.k (.mov (.tmp 5))), .mk (some 29) none (.k (.arith .add .i64 (.tmp 28) (.const (.int .i64 1)))), .mk (some 30) none (.k (.idx 1 (.tmp 27) (.tmp 29))), .mk (some 31) none (.k (.load [.int .i64] false (.tmp 30))), .mk (some 32) none (.k (.fld 1 (.tmp 7))), .mk none none (.k (.store 1 (.tmp 32) (.tmp 31)))]
def T19n1 : XC := .blk 3 (.ops [.mk (some 39) none (.k (.fld 2 (.tmp 7))), .mk (some 40) none (.k (.load [.slc] false (.tmp 39))), .mk (some 41) none (.k (.load [.slc] false (.tmp 3))), .mk (some 42) none (.k (.mov (.tmp 8))), .mk (some 43) none (.call 21 [.tmp 41, .tmp 42]), .mk none none (.still 40 (.load [.slc] false (.tmp 39))), .mk (some 44) none (.k (.buildS 3 1 1 [.int .i64 0] [(0, .tmp 43)])), .mk (some 45) none (.k (.app 3 1 8 (.tmp 40) (.tmp 44))), .mk (some 46) none (.k (.fld 2 (.tmp 7))), .mk none none (.k (.store 1 (.tmp 46) (.tmp 45)))])
def T19n2 : XC := .blk 2 (.rng (.tmp 37) [38] (.ops [.mk (some 8) none (.k (.mov (.tmp 38)))]) (.ref 1))
def T19n3 : XC := .ops [.mk (some 54) none (.k (.mov (.tmp 4))), .mk (some 55) none (.k (.load [.int .i64, .int .i64, .slc] true (.tmp 7))), .mk (some 56) none (.k (.buildS 32 1 3 [.int .i64 0, .int .i64 0, .slice none 0 0] [(0, .tmp 55)])), .mk (some 57) none (.k (.app 32 3 40 (.tmp 54) (.tmp 56))), .mk (some 4) none (.k (.mov (.tmp 57)))]
def T19n4 : XC := .seq (.ops [.mk (some 50) none (.k (.fld 2 (.tmp 7))), .mk (some 51) none (.k (.load [.slc] false (.tmp 50))), .mk (some 52) none (.call 41 [.tmp 51]), .mk (some 53) none (.k (.fld 2 (.tmp 7))), .mk none none (.k (.store 1 (.tmp 53) (.tmp 52)))]) (.ref 3)
def T19n5 : XC := .seq (.ops [.mk (some 47) none (.k (.fld 2 (.tmp 7))), .mk (some 48) none (.k (.load [.slc] false (.tmp 47))), .mk (some 49) none (.call 40 [.tmp 48])]) (.ref 4)
def T19n6 : XC := .seq (.seq (.ops [.mk (some 33) none (.k (.mov (.tmp 0))), .mk (some 34) none (.k (.fld 1 (.tmp 7))), .mk (some 35) none (.k (.load [.int .i64] false (.tmp 34))), .mk (some 36) none (.k (.arith .sub .i64 (.tmp 35) (.const (.int .i64 1)))), .mk (some 37) none (.call 39 [.tmp 33, .tmp 36])]) (.ref 2)) (.ref 5)
def T19n7 : XC := .seq (.seq (.ops [.mk (some 22) none (.k (.mov (.tmp 5))), .mk (some 23) none (.k (.arith .add .i64 (.tmp 22) (.const (.int .i64 1)))), .mk (some 24) none (.k (.load [.slc] false (.tmp 3))), .mk (some 25) none (.k (.lenS (.tmp 24))), .mk (some 26) none (.k (.cmp .lss .i64 (.tmp 23) (.tmp 25)))]) (.cond (.tmp 26) (.ref 0) .skip)) (.ref 6)
def T19n8 : XC := .seq (.ops [.mk (some 18) none (.k (.mov (.tmp 6))), .mk (some 19) none (.k (.mov (.tmp 0))), .mk (some 20) none (.k (.lenS (.tmp 19))), .mk (some 21) none (.k (.build [.int .i64 0, .int .i64 0, .slice none 0 0] [(0, 1, .tmp 18), (1, 1, .tmp 20)])), .mk (some 7) none (.k (.alloc 32 [.int .i64 0, .int .i64 0, .slice none 0 0])), .mk none none (.k (.store 3 (.tmp 7) (.tmp 21)))]) (.ref 7)
def T19n9 : XC := .seq (.blk 1 (.seq (.ops [.mk (some 15) none (.k (.mov (.tmp 13))), .mk (some 16) none (.k (.idx 1 (.tmp 11) (.tmp 13))), .mk (some 17) none (.k (.load [.int .i64] false (.tmp 16))), .mk (some 5) none (.k (.mov (.tmp 15))), .mk (some 6) none (.k (.mov (.tmp 17)))]) (.ref 8))) (.ops [.mk (some 58) none (.k (.arith .add .i64 (.tmp 13) (.const (.int .i64 1)))), .mk (some 13) none (.k (.mov (.tmp 58)))])
def T19n10 : XC := .seq (.cond (.tmp 14) .skip (.exit 0)) (.ref 9)
def T19n11 : XC := .seq (.ops [.mk (some 14) none (.k (.cmp .lss .i64 (.tmp 13) (.tmp 12)))]) (.ref 10)
def T19n12 : XC := .seq (.ops [.mk (some 59) none (.k (.mov (.tmp 4))), .mk (some 2) none (.k (.mov (.tmp 59)))]) .ret
def T19n13 : XC := .seq (.seq (.ops [.mk (some 11) none (.k (.load [.slc] false (.tmp 3))), .mk (some 12) none (.k (.lenS (.tmp 11))), .mk (some 13) none (.k (.mov (.const (.int .i64 0))))]) (.blk 0 (.loop (.ref 11)))) (.ref 12)
def T19n14 : XC := .seq (.ops [.mk (some 4) none (.k (.mov (.const (.slice none 0 0))))]) (.ref 13)
def T19n15 : XC := .seq (.ops [.mk (some 9) none (.k (.mov (.tmp 0))), .mk (some 10) none (.call 22 [.tmp 9]), .mk (some 3) none (.k (.alloc 30 [.slice none 0 0])), .mk none none (.k (.store 1 (.tmp 3) (.tmp 10)))]) (.ref 14)
def T19 : Nat → XC
 | 0 => T19n0
 | 1 => T19n1
 | 2 => T19n2
 | 3 => T19n3
 | 4 => T19n4
 | 5 => T19n5
 | 6 => T19n6
 | 7 => T19n7
 | 8 => T19n8
 | 9 => T19n9
 | 10 => T19n10
 | 11 => T19n11
 | 12 => T19n12
 | 13 => T19n13
 | 14 => T19n14
 | 15 => T19n15
 | _ => .skip
theorem t19n0 : T19 0 = T19n0 := rfl
theorem t19n1 : T19 1 = T19n1 := rfl
theorem t19n2 : T19 2 = T19n2 := rfl
theorem t19n3 : T19 3 = T19n3 := rfl
theorem t19n4 : T19 4 = T19n4 := rfl
theorem t19n5 : T19 5 = T19n5 := rfl
theorem t19n6 : T19 6 = T19n6 := rfl
theorem t19n7 : T19 7 = T19n7 := rfl
theorem t19n8 : T19 8 = T19n8 := rfl
theorem t19n9 : T19 9 = T19n9 := rfl
theorem t19n10 : T19 10 = T19n10 := rfl
theorem t19n11 : T19 11 = T19n11 := rfl
theorem t19n12 : T19 12 = T19n12 := rfl
theorem t19n13 : T19 13 = T19n13 := rfl
theorem t19n14 : T19 14 = T19n14 := rfl
theorem t19n15 : T19 15 = T19n15 := rfl
def X19 : XC := .seq (.ops [.mk (some 2) none (.k (.mov (.const (.slice none 0 0))))]) (.ref 15)
abbrev K19 : List Nat := [0, 2, 3, 4, 5, 6, 7, 8, 11, 12, 13, 14, 26, 37, 38]
theorem n19 : Tryd.f19.ntmps = 60 := by kernel_rfl
theorem r19 : resT Tryd.f19.results.toList = some [2] := by kernel_rfl
theorem x19 : cmpF Tryd.prog Tryd.f19 = some (expand T19 17 X19) := by kernel_rfl
def T37n0 : XC := .ops [.mk (some 44) none (.k (.mov (.tmp 6))), .mk (some 45) none (.k (.mov (.tmp 0))), .mk (some 46) none (.k (.mov (.tmp 7))), .mk (some 47) none (.k (.idx 3 (.tmp 45) (.tmp 46))), .mk (some 48) none (.k (.fld 2 (.tmp 47))), .mk (some 49) none (.k (.load [.slc] false (.tmp 48))), .mk (some 50) none (.k (.app 3 1 8 (.tmp 44) (.tmp 49))), .mk (some 6) none (.k (.mov (.tmp 50)))]
def T37n1 : XC := .seq (.ops [.mk (some 41) none (.k (.mov (.tmp 5))), .mk (some 42) none (.k (.mov (.tmp 7))), .mk (some 43) none (.k (.idx 1 (.tmp 41) (.tmp 42))), .mk none none (.k (.store 1 (.tmp 43) (.const (.bool true))))]) (.ref 0)
def T37n2 : XC := .seq (.seq (.ops [.mk (some 26) none (.k (.mov (.tmp 7))), .mk (some 27) none (.k (.mov (.tmp 0))), .mk (some 28) none (.k (.lenS (.tmp 27))), .mk (some 29) none (.k (.cmp .geq .i64 (.tmp 26) (.tmp 28))), .mk (some 30) none (.k (.mov (.tmp 29))), .mk (some 31) (some (30, false)) (.k (.mov (.tmp 7))), .mk (some 32) (some (30, false)) (.k (.mov (.tmp 1))), .mk (some 33) (some (30, false)) (.k (.cmp .eql .i64 (.tmp 31) (.tmp 32))), .mk (some 34) none (.k (.pick (.tmp 30) (.const (.bool true)) (.tmp 33))), .mk (some 35) none (.k (.mov (.tmp 34))), .mk (some 36) (some (35, false)) (.k (.mov (.tmp 5))), .mk (some 37) (some (35, false)) (.k (.mov (.tmp 7))), .mk (some 38) (some (35, false)) (.k (.idx 1 (.tmp 36) (.tmp 37))), .mk (some 39) (some (35, false)) (.k (.load [.bool] false (.tmp 38))), .mk (some 40) none (.k (.pick (.tmp 35) (.const (.bool true)) (.tmp 39)))]) (.cond (.tmp 40) (.exit 1) .skip)) (.ref 1)
def T37n3 : XC := .seq (.ops [.mk (some 21) none (.k (.mov (.tmp 6))), .mk (some 22) none (.k (.mov (.tmp 6))), .mk (some 23) none (.k (.lenS (.tmp 22))), .mk (some 24) none (.k (.arith .sub .i64 (.tmp 23) (.const (.int .i64 1)))), .mk (some 25) none (.k (.sub 1 (.tmp 21) none (some (.tmp 24)))), .mk (some 6) none (.k (.mov (.tmp 25)))]) (.ref 2)
def T37n4 : XC := .blk 1 (.seq (.ops [.mk (some 15) none (.k (.mov (.tmp 6))), .mk (some 16) none (.k (.mov (.tmp 6))), .mk (some 17) none (.k (.lenS (.tmp 16))), .mk (some 18) none (.k (.arith .sub .i64 (.tmp 17) (.const (.int .i64 1)))), .mk (some 19) none (.k (.idx 1 (.tmp 15) (.tmp 18))), .mk (some 20) none (.k (.load [.int .i64] false (.tmp 19))), .mk (some 7) none (.k (.mov (.tmp 20)))]) (.ref 3))
def T37n5 : XC := .seq (.seq (.ops [.mk (some 12) none (.k (.mov (.tmp 6))), .mk (some 13) none (.k (.lenS (.tmp 12))), .mk (some 14) none (.k (.cmp .gtr .i64 (.tmp 13) (.const (.int .i64 0))))]) (.cond (.tmp 14) .skip (.exit 0))) (.ref 4)
def T37n6 : XC := .seq (.ops [.mk (some 51) none (.k (.mov (.tmp 5))), .mk (some 4) none (.k (.mov (.tmp 51)))]) .ret
def T37n7 : XC := .seq (.blk 0 (.loop (.ref 5))) (.ref 6)
def T37n8 : XC := .seq (.ops [.mk (some 11) none (.k (.buildS 3 1 1 [.int .i64 0] [(0, .const (.int .i64 0))])), .mk (some 6) none (.k (.mov (.tmp 11)))]) (.seq (.lab) (.ref 7))
def T37n9 : XC := .scp (.seq (.ops [.mk (some 8) none (.k (.mov (.tmp 0))), .mk (some 9) none (.k (.lenS (.tmp 8))), .mk (some 10) none (.k (.mkslc 4 1 1 [.bool false] (.tmp 9) (.tmp 9))), .mk (some 5) none (.k (.mov (.tmp 10)))]) (.ref 8))
def T37 : Nat → XC
 | 0 => T37n0
 | 1 => T37n1
 | 2 => T37n2
 | 3 => T37n3
 | 4 => T37n4
 | 5 => T37n5
 | 6 => T37n6
 | 7 => T37n7
 | 8 => T37n8
 | 9 => T37n9
 | _ => .skip
theorem t37n0 : T37 0 = T37n0 := rfl
theorem t37n1 : T37 1 = T37n1 := rfl
theorem t37n2 : T37 2 = T37n2 := rfl
theorem t37n3 : T37 3 = T37n3 := rfl
theorem t37n4 : T37 4 = T37n4 := rfl
theorem t37n5 : T37 5 = T37n5 := rfl
theorem t37n6 : T37 6 = T37n6 := rfl
theorem t37n7 : T37 7 = T37n7 := rfl
theorem t37n8 : T37 8 = T37n8 := rfl
theorem t37n9 : T37 9 = T37n9 := rfl
def X37 : XC := .seq (.ops [.mk (some 4) none (.k (.mov (.const (.slice none 0 0))))]) (.ref 9)
abbrev K37 : List Nat := [0, 1, 4, 5, 6, 7, 14, 40]
theorem n37 : Tryd.f37.ntmps = 52 := by kernel_rfl
theorem r37 : resT Tryd.f37.results.toList = some [4] := by kernel_rfl
theorem x37 : cmpF Tryd.prog Tryd.f37 = some (expand T37 11 X37) := by kernel_rfl
def T21n0 : XC := .seq (.ops [.mk (some 13) none (.k (.mov (.tmp 5))), .mk (some 4) none (.k (.mov (.tmp 13)))]) .ret
def T21n1 : XC := .seq (.ops [.mk (some 8) none (.k (.mov (.tmp 0))), .mk (some 9) none (.k (.mov (.tmp 1))), .mk (some 10) none (.call 42 [.tmp 8, .tmp 9]), .mk (some 7) none (.k (.mov (.tmp 10))), .mk (some 11) none (.k (.ext (.tmp 7) 0)), .mk (some 12) none (.k (.ext (.tmp 7) 1)), .mk (some 5) none (.k (.mov (.tmp 11))), .mk (some 6) none (.k (.mov (.tmp 12)))]) (.ref 0)
def T21 : Nat → XC
 | 0 => T21n0
 | 1 => T21n1
 | _ => .skip
theorem t21n0 : T21 0 = T21n0 := rfl
theorem t21n1 : T21 1 = T21n1 := rfl
def X21 : XC := .seq (.ops [.mk (some 4) none (.k (.mov (.const (.int .i64 0))))]) (.ref 1)
abbrev K21 : List Nat := [0, 1, 4, 5]
theorem n21 : Tryd.f21.ntmps = 14 := by kernel_rfl
theorem r21 : resT Tryd.f21.results.toList = some [4] := by kernel_rfl
theorem x21 : cmpF Tryd.prog Tryd.f21 = some (expand T21 3 X21) := by kernel_rfl
def T22n0 : XC := .seq (.ops [.mk (some 2) none (.k (.mov (.const (.slice none 0 0))))]) .ret
def T22n1 : XC := .ops [.mk (some 25) none (.k (.mov (.tmp 3))), .mk (some 26) none (.k (.mov (.tmp 4))), .mk (some 27) none (.k (.arith .add .i64 (.tmp 26) (.const (.int .i64 1)))), .mk (some 28) none (.k (.buildS 3 1 1 [.int .i64 0] [(0, .tmp 27)])), .mk (some 29) none (.k (.app 3 1 8 (.tmp 25) (.tmp 28))), .mk (some 3) none (.k (.mov (.tmp 29)))]
def T22n2 : XC := .ops [.mk (some 30) none (.k (.mov (.tmp 3))), .mk (some 31) none (.k (.mov (.tmp 0))), .mk (some 32) none (.k (.mov (.tmp 4))), .mk (some 33) none (.call 39 [.tmp 31, .tmp 32]), .mk (some 34) none (.call 44 [.tmp 30, .tmp 33]), .mk (some 3) none (.k (.mov (.tmp 34)))]
def T22n3 : XC := .seq (.seq (.ops [.mk (some 20) none (.k (.mov (.tmp 4))), .mk (some 21) none (.k (.arith .add .i64 (.tmp 20) (.const (.int .i64 1)))), .mk (some 22) none (.k (.mov (.tmp 0))), .mk (some 23) none (.k (.lenS (.tmp 22))), .mk (some 24) none (.k (.cmp .lss .i64 (.tmp 21) (.tmp 23)))]) (.cond (.tmp 24) (.ref 1) .skip)) (.ref 2)
def T22n4 : XC := .seq (.seq (.ops [.mk (some 17) none (.k (.load [.int .i64, .int .i64, .int .i64, .int .i64, .int .i64] true (.tmp 5))), .mk (some 18) none (.call 43 [.tmp 17]), .mk (some 19) none (.k (.not (.tmp 18)))]) (.cond (.tmp 19) (.exit 1) .skip)) (.ref 3)
def T22n5 : XC := .seq (.blk 1 (.seq (.ops [.mk (some 14) none (.k (.mov (.tmp 12))), .mk (some 15) none (.k (.idx 5 (.tmp 10) (.tmp 12))), .mk (some 16) none (.k (.load [.int .i64, .int .i64, .int .i64, .int .i64, .int .i64] true (.tmp 15))), .mk (some 5) none (.k (.alloc 37 [.int .i64 0, .int .i64 0, .int .i64 0, .int .i64 0, .int .i64 0])), .mk (some 4) none (.k (.mov (.tmp 14))), .mk none none (.k (.store 5 (.tmp 5) (.tmp 16)))]) (.ref 4))) (.ops [.mk (some 35) none (.k (.arith .add .i64 (.tmp 12) (.const (.int .i64 1)))), .mk (some 12) none (.k (.mov (.tmp 35)))])
def T22n6 : XC := .seq (.cond (.tmp 13) .skip (.exit 0)) (.ref 5)
def T22n7 : XC := .seq (.ops [.mk (some 13) none (.k (.cmp .lss .i64 (.tmp 12) (.tmp 11)))]) (.ref 6)
def T22n8 : XC := .seq (.ops [.mk (some 38) none (.k (.mov (.tmp 3))), .mk (some 39) none (.call 41 [.tmp 38]), .mk (some 2) none (.k (.mov (.tmp 39)))]) .ret
def T22n9 : XC := .seq (.ops [.mk (some 36) none (.k (.mov (.tmp 3))), .mk (some 37) none (.call 40 [.tmp 36])]) (.ref 8)
def T22n10 : XC := .seq (.seq (.ops [.mk (some 10) none (.k (.mov (.tmp 0))), .mk (some 11) none (.k (.lenS (.tmp 10))), .mk (some 12) none (.k (.mov (.const (.int .i64 0))))]) (.blk 0 (.loop (.ref 7)))) (.ref 9)
def T22n11 : XC := .seq (.ops [.mk (some 9) none (.k (.buildS 3 1 1 [.int .i64 0] [(0, .const (.int .i64 0))])), .mk (some 3) none (.k (.mov (.tmp 9)))]) (.ref 10)
def T22n12 : XC := .seq (.seq (.ops [.mk (some 6) none (.k (.mov (.tmp 0))), .mk (some 7) none (.k (.lenS (.tmp 6))), .mk (some 8) none (.k (.cmp .eql .i64 (.tmp 7) (.const (.int .i64 0))))]) (.cond (.tmp 8) (.ref 0) .skip)) (.ref 11)
def T22 : Nat → XC
 | 0 => T22n0
 | 1 => T22n1
 | 2 => T22n2
 | 3 => T22n3
 | 4 => T22n4
 | 5 => T22n5
 | 6 => T22n6
 | 7 => T22n7
 | 8 => T22n8
 | 9 => T22n9
 | 10 => T22n10
 | 11 => T22n11
 | 12 => T22n12
 | _ => .skip
theorem t22n0 : T22 0 = T22n0 := rfl
theorem t22n1 : T22 1 = T22n1 := rfl
theorem t22n2 : T22 2 = T22n2 := rfl
theorem t22n3 : T22 3 = T22n3 := rfl
theorem t22n4 : T22 4 = T22n4 := rfl
theorem t22n5 : T22 5 = T22n5 := rfl
theorem t22n6 : T22 6 = T22n6 := rfl
theorem t22n7 : T22 7 = T22n7 := rfl
theorem t22n8 : T22 8 = T22n8 := rfl
theorem t22n9 : T22 9 = T22n9 := rfl
theorem t22n10 : T22 10 = T22n10 := rfl
theorem t22n11 : T22 11 = T22n11 := rfl
theorem t22n12 : T22 12 = T22n12 := rfl
def X22 : XC := .seq (.ops [.mk (some 2) none (.k (.mov (.const (.slice none 0 0))))]) (.ref 12)
abbrev K22 : List Nat := [0, 2, 3, 4, 5, 8, 10, 11, 12, 13, 19, 24]
theorem n22 : Tryd.f22.ntmps = 40 := by kernel_rfl
theorem r22 : resT Tryd.f22.results.toList = some [2] := by kernel_rfl
theorem x22 : cmpF Tryd.prog Tryd.f22 = some (expand T22 14 X22) := by kernel_rfl
def T39n0 : XC := .seq (.ops [.mk (some 5) none (.k (.mkfn (.func 56) [] [.tmp 2, .tmp 3])), .mk (some 4) none (.k (.mov (.tmp 5)))]) .ret
def T39 : Nat → XC
 | 0 => T39n0
 | _ => .skip
theorem t39n0 : T39 0 = T39n0 := rfl
def X39 : XC := .seq (.ops [.mk (some 2) none (.k (.box 22 1 (.tmp 0))), .mk (some 3) none (.k (.box 3 1 (.tmp 1))), .mk (some 4) none (.k (.mov (.const .nilFunc)))]) (.ref 0)
abbrev K39 : List Nat := [0, 1, 2, 3, 4]
theorem n39 : Tryd.f39.ntmps = 6 := by kernel_rfl
theorem r39 : resT Tryd.f39.results.toList = some [4] := by kernel_rfl
theorem x39 : cmpF Tryd.prog Tryd.f39 = some (expand T39 2 X39) := by kernel_rfl
def T41n0 : XC := .seq (.ops [.mk (some 9) none (.k (.mov (.tmp 0))), .mk (some 2) none (.k (.mov (.tmp 9)))]) .ret
def T41n1 : XC := .ops [.mk (some 52) none (.k (.mov (.tmp 3))), .mk (some 53) none (.k (.arith .add .i64 (.tmp 52) (.const (.int .i64 1)))), .mk (some 3) none (.k (.mov (.tmp 53)))]
def T41n2 : XC := .seq (.ops [.mk (some 45) none (.k (.mov (.tmp 0))), .mk (some 46) none (.k (.mov (.tmp 3))), .mk (some 47) none (.k (.mov (.tmp 4))), .mk (some 48) none (.k (.mov (.tmp 5))), .mk (some 49) none (.k (.idx 1 (.tmp 47) (.tmp 48))), .mk (some 50) none (.k (.load [.int .i64] false (.tmp 49))), .mk (some 51) none (.k (.idx 1 (.tmp 45) (.tmp 46))), .mk none none (.k (.store 1 (.tmp 51) (.tmp 50)))]) (.ref 1)
def T41n3 : XC := .ops [.mk (some 33) none (.k (.mov (.tmp 5))), .mk (some 34) none (.k (.arith .add .i64 (.tmp 33) (.const (.int .i64 1)))), .mk (some 5) none (.k (.mov (.tmp 34)))]
def T41n4 : XC := .seq (.blk 3 (.seq (.ops [.mk (some 35) none (.k (.mov (.tmp 4))), .mk (some 36) none (.k (.mov (.tmp 5))), .mk (some 37) none (.k (.idx 1 (.tmp 35) (.tmp 36))), .mk (some 38) none (.k (.load [.int .i64] false (.tmp 37))), .mk (some 39) none (.k (.mov (.tmp 4))), .mk (some 40) none (.k (.mov (.tmp 5))), .mk (some 41) none (.k (.arith .sub .i64 (.tmp 40) (.const (.int .i64 1)))), .mk (some 42) none (.k (.idx 1 (.tmp 39) (.tmp 41))), .mk (some 43) none (.k (.load [.int .i64] false (.tmp 42))), .mk (some 44) none (.k (.cmp .neq .i64 (.tmp 38) (.tmp 43)))]) (.cond (.tmp 44) (.ref 2) .skip))) (.ref 3)
def T41n5 : XC := .seq (.seq (.ops [.mk (some 29) none (.k (.mov (.tmp 5))), .mk (some 30) none (.k (.mov (.tmp 4))), .mk (some 31) none (.k (.lenS (.tmp 30))), .mk (some 32) none (.k (.cmp .lss .i64 (.tmp 29) (.tmp 31)))]) (.cond (.tmp 32) .skip (.exit 2))) (.ref 4)
def T41n6 : XC := .seq (.ops [.mk (some 57) none (.k (.mov (.tmp 0))), .mk (some 58) none (.k (.mov (.tmp 3))), .mk (some 59) none (.k (.sub 1 (.tmp 57) none (some (.tmp 58)))), .mk (some 2) none (.k (.mov (.tmp 59)))]) .ret
def T41n7 : XC := .seq (.ops [.mk (some 54) none (.k (.mov (.tmp 0))), .mk (some 55) none (.k (.mov (.tmp 3))), .mk (some 56) none (.k (.sub 1 (.tmp 54) (some (.tmp 55)) none)), .mk none none (.k (.clr 1 [.int .i64 0] (.tmp 56)))]) (.ref 6)
def T41n8 : XC := .seq (.seq (.ops [.mk (some 5) none (.k (.mov (.const (.int .i64 1))))]) (.blk 2 (.loop (.ref 5)))) (.ref 7)
def T41n9 : XC := .seq (.ops [.mk (some 26) none (.k (.mov (.tmp 0))), .mk (some 27) none (.k (.mov (.tmp 3))), .mk (some 28) none (.k (.sub 1 (.tmp 26) (some (.tmp 27)) none)), .mk (some 4) none (.k (.mov (.tmp 28)))]) (.ref 8)
def T41n10 : XC := .ops [.mk (some 14) none (.k (.mov (.tmp 3))), .mk (some 15) none (.k (.arith .add .i64 (.tmp 14) (.const (.int .i64 1)))), .mk (some 3) none (.k (.mov (.tmp 15)))]
def T41n11 : XC := .seq (.blk 1 (.seq (.ops [.mk (some 16) none (.k (.mov (.tmp 0))), .mk (some 17) none (.k (.mov (.tmp 3))), .mk (some 18) none (.k (.idx 1 (.tmp 16) (.tmp 17))), .mk (some 19) none (.k (.load [.int .i64] false (.tmp 18))), .mk (some 20) none (.k (.mov (.tmp 0))), .mk (some 21) none (.k (.mov (.tmp 3))), .mk (some 22) none (.k (.arith .sub .i64 (.tmp 21) (.const (.int .i64 1)))), .mk (some 23) none (.k (.idx 1 (.tmp 20) (.tmp 22))), .mk (some 24) none (.k (.load [.int .i64] false (.tmp 23))), .mk (some 25) none (.k (.cmp .eql .i64 (.tmp 19) (.tmp 24)))]) (.cond (.tmp 25) (.ref 9) .skip))) (.ref 10)
def T41n12 : XC := .seq (.seq (.ops [.mk (some 10) none (.k (.mov (.tmp 3))), .mk (some 11) none (.k (.mov (.tmp 0))), .mk (some 12) none (.k (.lenS (.tmp 11))), .mk (some 13) none (.k (.cmp .lss .i64 (.tmp 10) (.tmp 12)))]) (.cond (.tmp 13) .skip (.exit 0))) (.ref 11)
def T41n13 : XC := .seq (.ops [.mk (some 60) none (.k (.mov (.tmp 0))), .mk (some 2) none (.k (.mov (.tmp 60)))]) .ret
def T41n14 : XC := .seq (.seq (.ops [.mk (some 3) none (.k (.mov (.const (.int .i64 1))))]) (.blk 0 (.loop (.ref 12)))) (.ref 13)
def T41n15 : XC := .seq (.seq (.ops [.mk (some 6) none (.k (.mov (.tmp 0))), .mk (some 7) none (.k (.lenS (.tmp 6))), .mk (some 8) none (.k (.cmp .lss .i64 (.tmp 7) (.const (.int .i64 2))))]) (.cond (.tmp 8) (.ref 0) .skip)) (.ref 14)
def T41 : Nat → XC
 | 0 => T41n0
 | 1 => T41n1
 | 2 => T41n2
 | 3 => T41n3
 | 4 => T41n4
 | 5 => T41n5
 | 6 => T41n6
 | 7 => T41n7
 | 8 => T41n8
 | 9 => T41n9
 | 10 => T41n10
 | 11 => T41n11
 | 12 => T41n12
 | 13 => T41n13
 | 14 => T41n14
 | 15 => T41n15
 | _ => .skip
theorem t41n0 : T41 0 = T41n0 := rfl
theorem t41n1 : T41 1 = T41n1 := rfl
theorem t41n2 : T41 2 = T41n2 := rfl
theorem t41n3 : T41 3 = T41n3 := rfl
theorem t41n4 : T41 4 = T41n4 := rfl
theorem t41n5 : T41 5 = T41n5 := rfl
theorem t41n6 : T41 6 = T41n6 := rfl
theorem t41n7 : T41 7 = T41n7 := rfl
theorem t41n8 : T41 8 = T41n8 := rfl
theorem t41n9 : T41 9 = T41n9 := rfl
theorem t41n10 : T41 10 = T41n10 := rfl
theorem t41n11 : T41 11 = T41n11 := rfl
theorem t41n12 : T41 12 = T41n12 := rfl
theorem t41n13 : T41 13 = T41n13 := rfl
theorem t41n14 : T41 14 = T41n14 := rfl
theorem t41n15 : T41 15 = T41n15 := rfl
def X41 : XC := .seq (.ops [.mk (some 2) none (.k (.mov (.const (.slice none 0 0))))]) (.ref 15)
abbrev K41 : List Nat := [0, 2, 3, 4, 5, 8, 13, 25, 32, 44]
theorem n41 : Tryd.f41.ntmps = 61 := by kernel_rfl
theorem r41 : resT Tryd.f41.results.toList = some [2] := by kernel_rfl
theorem x41 : cmpF Tryd.prog Tryd.f41 = some (expand T41 17 X41) := by kernel_rfl
def T43n0 : XC := .seq (.ops [.mk (some 3) none (.k (.load [.int .i64, .int .i64, .int .i64, .int .i64, .int .i64] true (.tmp 1))), .mk (some 4) none (.call 24 [.tmp 3]), .mk (some 5) none (.k (.not (.tmp 4))), .mk (some 6) none (.k (.mov (.tmp 5))), .mk (some 7) (some (6, false)) (.k (.fld 0 (.tmp 1))), .mk (some 8) (some (6, false)) (.k (.load [.int .i64] false (.tmp 7))), .mk (some 9) (some (6, false)) (.k (.cmp .eql .i64 (.tmp 8) (.const (.int .i64 1)))), .mk (some 10) none (.k (.pick (.tmp 6) (.const (.bool true)) (.tmp 9))), .mk (some 11) none (.k (.mov (.tmp 10))), .mk (some 12) (some (11, false)) (.k (.fld 0 (.tmp 1))), .mk (some 13) (some (11, false)) (.k (.load [.int .i64] false (.tmp 12))), .mk (some 14) (some (11, false)) (.call 57 [.tmp 13]), .mk (some 15) none (.k (.pick (.tmp 11) (.const (.bool true)) (.tmp 14))), .mk (some 2) none (.k (.mov (.tmp 15)))]) .ret
def T43 : Nat → XC
 | 0 => T43n0
 | _ => .skip
theorem t43n0 : T43 0 = T43n0 := rfl
def X43 : XC := .seq (.ops [.mk (some 1) none (.k (.box 37 5 (.tmp 0))), .mk (some 2) none (.k (.mov (.const (.bool false))))]) (.ref 0)
abbrev K43 : List Nat := [0, 1, 2]
theorem n43 : Tryd.f43.ntmps = 16 := by kernel_rfl
theorem r43 : resT Tryd.f43.results.toList = some [2] := by kernel_rfl
theorem x43 : cmpF Tryd.prog Tryd.f43 = some (expand T43 2 X43) := by kernel_rfl
def T44n0 : XC := .blk 1 (.ops [.mk (some 8) none (.k (.load [.slc] false (.tmp 2))), .mk (some 9) none (.k (.mov (.tmp 5))), .mk (some 10) none (.k (.buildS 3 1 1 [.int .i64 0] [(0, .tmp 9)])), .mk (some 11) none (.k (.app 3 1 8 (.tmp 8) (.tmp 10))), .mk none none (.k (.store 1 (.tmp 2) (.tmp 11)))])
def T44n1 : XC := .blk 0 (.rng (.tmp 6) [7] (.ops [.mk (some 5) none (.k (.mov (.tmp 7)))]) (.ref 0))
def T44n2 : XC := .seq (.ops [.mk (some 12) none (.k (.load [.slc] false (.tmp 2))), .mk (some 4) none (.k (.mov (.tmp 12)))]) .ret
def T44n3 : XC := .seq (.seq (.ops [.mk (some 6) none (.k (.mov (.tmp 1)))]) (.ref 1)) (.ref 2)
def T44 : Nat → XC
 | 0 => T44n0
 | 1 => T44n1
 | 2 => T44n2
 | 3 => T44n3
 | _ => .skip
theorem t44n0 : T44 0 = T44n0 := rfl
theorem t44n1 : T44 1 = T44n1 := rfl
theorem t44n2 : T44 2 = T44n2 := rfl
theorem t44n3 : T44 3 = T44n3 := rfl
def X44 : XC := .seq (.ops [.mk (some 2) none (.k (.box 30 1 (.tmp 0))), .mk (some 4) none (.k (.mov (.const (.slice none 0 0))))]) (.ref 3)
abbrev K44 : List Nat := [0, 1, 2, 4, 5, 6, 7]
theorem n44 : Tryd.f44.ntmps = 13 := by kernel_rfl
theorem r44 : resT Tryd.f44.results.toList = some [4] := by kernel_rfl
theorem x44 : cmpF Tryd.prog Tryd.f44 = some (expand T44 5 X44) := by kernel_rfl
def T56n0 : XC := .ops [.mk (some 49) none (.k (.mov (.tmp 0))), .mk (some 50) none (.k (.load [.int .i64] false (.tmp 2))), .mk (some 51) none (.k (.arith .add .i64 (.tmp 50) (.const (.int .i64 1)))), .mk (some 52) none (.callv (.tmp 49) [.tmp 51])]
def T56n1 : XC := .seq (.ops [.mk (some 39) none (.k (.fld 0 (.tmp 4))), .mk (some 40) none (.k (.load [.int .i64] false (.tmp 39))), .mk (some 41) none (.k (.cmp .neq .i64 (.tmp 40) (.const (.int .i64 13)))), .mk (some 42) none (.k (.mov (.tmp 41))), .mk (some 43) (some (42, true)) (.k (.load [.int .i64] false (.tmp 2))), .mk (some 44) (some (42, true)) (.k (.arith .add .i64 (.tmp 43) (.const (.int .i64 1)))), .mk (some 45) (some (42, true)) (.k (.load [.slc] false (.tmp 1))), .mk (some 46) (some (42, true)) (.k (.lenS (.tmp 45))), .mk (some 47) (some (42, true)) (.k (.cmp .lss .i64 (.tmp 44) (.tmp 46))), .mk (some 48) none (.k (.pick (.tmp 42) (.tmp 47) (.const (.bool false))))]) (.cond (.tmp 48) (.ref 0) .skip)
def T56n2 : XC := .seq (.seq (.ops [.mk (some 17) none (.k (.fld 0 (.tmp 4))), .mk (some 18) none (.k (.load [.int .i64] false (.tmp 17))), .mk (some 19) none (.call 57 [.tmp 18]), .mk (some 20) none (.k (.mov (.tmp 19))), .mk (some 21) (some (20, true)) (.k (.fld 4 (.tmp 4))), .mk (some 22) (some (20, true)) (.k (.load [.int .i64] false (.tmp 21))), .mk (some 23) (some (20, true)) (.k (.cmp .geq .i64 (.tmp 22) (.const (.int .i64 0)))), .mk (some 24) none (.k (.pick (.tmp 20) (.tmp 23) (.const (.bool false)))), .mk (some 25) none (.k (.mov (.tmp 24))), .mk (some 26) (some (25, true)) (.k (.fld 4 (.tmp 4))), .mk (some 27) (some (25, true)) (.k (.load [.int .i64] false (.tmp 26))), .mk (some 28) (some (25, true)) (.k (.load [.slc] false (.tmp 1))), .mk (some 29) (some (25, true)) (.k (.lenS (.tmp 28))), .mk (some 30) (some (25, true)) (.k (.cmp .lss .i64 (.tmp 27) (.tmp 29))), .mk (some 31) none (.k (.pick (.tmp 25) (.tmp 30) (.const (.bool false)))), .mk (some 32) none (.k (.mov (.tmp 31))), .mk (some 33) (some (32, true)) (.k (.mov (.tmp 0))), .mk (some 34) (some (32, true)) (.k (.fld 4 (.tmp 4))), .mk (some 35) (some (32, true)) (.k (.load [.int .i64] false (.tmp 34))), .mk (some 36) (some (32, true)) (.callv (.tmp 33) [.tmp 35]), .mk (some 37) (some (32, true)) (.k (.not (.tmp 36))), .mk (some 38) none (.k (.pick (.tmp 32) (.tmp 37) (.const (.bool false))))]) (.cond (.tmp 38) .ret .skip)) (.ref 1)
def T56n3 : XC := .seq (.seq (.ops [.mk (some 9) none (.k (.load [.int .i64, .int .i64, .int .i64, .int .i64, .int .i64] true (.tmp 4))), .mk (some 10) none (.call 24 [.tmp 9]), .mk (some 11) none (.k (.not (.tmp 10))), .mk (some 12) none (.k (.mov (.tmp 11))), .mk (some 13) (some (12, false)) (.k (.fld 0 (.tmp 4))), .mk (some 14) (some (12, false)) (.k (.load [.int .i64] false (.tmp 13))), .mk (some 15) (some (12, false)) (.k (.cmp .eql .i64 (.tmp 14) (.const (.int .i64 1)))), .mk (some 16) none (.k (.pick (.tmp 12) (.const (.bool true)) (.tmp 15)))]) (.cond (.tmp 16) .ret .skip)) (.ref 2)
def T56 : Nat → XC
 | 0 => T56n0
 | 1 => T56n1
 | 2 => T56n2
 | 3 => T56n3
 | _ => .skip
theorem t56n0 : T56 0 = T56n0 := rfl
theorem t56n1 : T56 1 = T56n1 := rfl
theorem t56n2 : T56 2 = T56n2 := rfl
theorem t56n3 : T56 3 = T56n3 := rfl
def X56 : XC := .seq (.ops [.mk (some 5) none (.k (.load [.slc] false (.tmp 1))), .mk (some 6) none (.k (.load [.int .i64] false (.tmp 2))), .mk (some 7) none (.k (.idx 5 (.tmp 5) (.tmp 6))), .mk (some 8) none (.k (.load [.int .i64, .int .i64, .int .i64, .int .i64, .int .i64] true (.tmp 7))), .mk (some 4) none (.k (.alloc 37 [.int .i64 0, .int .i64 0, .int .i64 0, .int .i64 0, .int .i64 0])), .mk none none (.k (.store 5 (.tmp 4) (.tmp 8)))]) (.ref 3)
abbrev K56 : List Nat := [0, 1, 2, 4, 16, 38, 48]
theorem n56 : Tryd.f56.ntmps = 53 := by kernel_rfl
theorem r56 : resT Tryd.f56.results.toList = some [] := by kernel_rfl
theorem x56 : cmpF Tryd.prog Tryd.f56 = some (expand T56 5 X56) := by kernel_rfl
def T57n0 : XC := .seq (.ops [.mk (some 3) none (.k (.mov (.tmp 0))), .mk (some 4) none (.k (.cmp .geq .i64 (.tmp 3) (.const (.int .i64 13)))), .mk (some 5) none (.k (.mov (.tmp 4))), .mk (some 6) (some (5, true)) (.k (.mov (.tmp 0))), .mk (some 7) (some (5, true)) (.k (.cmp .leq .i64 (.tmp 6) (.const (.int .i64 16)))), .mk (some 8) none (.k (.pick (.tmp 5) (.tmp 7) (.const (.bool false)))), .mk (some 2) none (.k (.mov (.tmp 8)))]) .ret
def T57 : Nat → XC
 | 0 => T57n0
 | _ => .skip
theorem t57n0 : T57 0 = T57n0 := rfl
def X57 : XC := .seq (.ops [.mk (some 2) none (.k (.mov (.const (.bool false))))]) (.ref 0)
abbrev K57 : List Nat := [0, 2]
theorem n57 : Tryd.f57.ntmps = 9 := by kernel_rfl
theorem r57 : resT Tryd.f57.results.toList = some [2] := by kernel_rfl
theorem x57 : cmpF Tryd.prog Tryd.f57 = some (expand T57 2 X57) := by kernel_rfl
def T14n0 : XC := .seq (.ops [.mk (some 2) none (.k (.mov (.const (.slice none 0 0)))), .mk (some 3) none (.k (.mov (.const (.int .i64 2))))]) .ret
def T14n1 : XC := .seq (.ops [.mk (some 7) none (.k (.mov (.tmp 0))), .mk (some 8) none (.call 19 [.tmp 7]), .mk (some 9) none (.call 37 [.tmp 8, .const (.int .i64 (-1))]), .mk (some 2) none (.k (.mov (.tmp 9))), .mk (some 3) none (.k (.mov (.const (.int .i64 0))))]) .ret
def T14n2 : XC := .seq (.seq (.ops [.mk (some 4) none (.k (.mov (.tmp 0))), .mk (some 5) none (.k (.lenS (.tmp 4))), .mk (some 6) none (.k (.cmp .gtr .i64 (.tmp 5) (.const (.int .i64 1024))))]) (.cond (.tmp 6) (.ref 0) .skip)) (.ref 1)
def T14 : Nat → XC
 | 0 => T14n0
 | 1 => T14n1
 | 2 => T14n2
 | _ => .skip
theorem t14n0 : T14 0 = T14n0 := rfl
theorem t14n1 : T14 1 = T14n1 := rfl
theorem t14n2 : T14 2 = T14n2 := rfl
def X14 : XC := .seq (.ops [.mk (some 2) none (.k (.mov (.const (.slice none 0 0)))), .mk (some 3) none (.k (.mov (.const (.int .i64 0))))]) (.ref 2)
abbrev K14 : List Nat := [0, 2, 3, 6]
theorem n14 : Tryd.f14.ntmps = 10 := by kernel_rfl
theorem r14 : resT Tryd.f14.results.toList = some [2, 3] := by kernel_rfl
theorem x14 : cmpF Tryd.prog Tryd.f14 = some (expand T14 4 X14) := by kernel_rfl
end Go.Proofs.YtgghmmjoplddbaaDoor
