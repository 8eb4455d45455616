/- Printed by program: the small code of functions, and that it is theirs. -/
import Derived.Test.YtlbiogokpadaoaaGreatDoorSxStill
import Derived.Test.YtlbiogokpadaoaaGreatDoorProg
import Derived.KernelRfl
set_option linter.unusedSimpArgs false
set_option linter.unusedVariables false
set_option linter.unnecessarySimpa false
namespace Go.Proofs.YtlbiogokpadaoaaGreatDoor
open Go Go.Sx
set_option maxRecDepth 100000
def T33n0 : XC := .ops [.mk (some 27) none (.k (.load [.slc] false (.tmp 3))), .mk (some 28) none (.k (.mov (.tmp 5))), .mk (some 29) none (.k (.arith .add .i64 (.tmp 28) (.const (.int .i64 1)))), .mk (some 30) none (.k (.idx 1 (.tmp 27) (.tmp 29))), .mk (some 31) none (.k (.load [.int .i64] false (.tmp 30))), .mk (some 32) none (.k (.fld 1 (.tmp 7))), .mk none none (.k (.store 1 (.tmp 32) (.tmp 31)))]
def T33n1 : XC := .blk 3 (.ops [.mk (some 39) none (.k (.fld 2 (.tmp 7))), .mk (some 40) none (.k (.load [.slc] false (.tmp 39))), .mk (some 41) none (.k (.load [.slc] false (.tmp 3))), .mk (some 42) none (.k (.mov (.tmp 8))), .mk (some 43) none (.call 47 [.tmp 41, .tmp 42]), .mk none none (.still 40 (.load [.slc] false (.tmp 39))), .mk (some 44) none (.k (.buildS 3 1 1 [.int .i64 0] [(0, .tmp 43)])), .mk (some 45) none (.k (.app 3 1 8 (.tmp 40) (.tmp 44))), .mk (some 46) none (.k (.fld 2 (.tmp 7))), .mk none none (.k (.store 1 (.tmp 46) (.tmp 45)))])
def T33n2 : XC := .blk 2 (.rng (.tmp 37) [38] (.ops [.mk (some 8) none (.k (.mov (.tmp 38)))]) (.ref 1))
def T33n3 : XC := .ops [.mk (some 54) none (.k (.mov (.tmp 4))), .mk (some 55) none (.k (.load [.int .i64, .int .i64, .slc] true (.tmp 7))), .mk (some 56) none (.k (.buildS 35 1 3 [.int .i64 0, .int .i64 0, .slice none 0 0] [(0, .tmp 55)])), .mk (some 57) none (.k (.app 35 3 40 (.tmp 54) (.tmp 56))), .mk (some 4) none (.k (.mov (.tmp 57)))]
def T33n4 : XC := .seq (.ops [.mk (some 50) none (.k (.fld 2 (.tmp 7))), .mk (some 51) none (.k (.load [.slc] false (.tmp 50))), .mk (some 52) none (.call 69 [.tmp 51]), .mk (some 53) none (.k (.fld 2 (.tmp 7))), .mk none none (.k (.store 1 (.tmp 53) (.tmp 52)))]) (.ref 3)
def T33n5 : XC := .seq (.ops [.mk (some 47) none (.k (.fld 2 (.tmp 7))), .mk (some 48) none (.k (.load [.slc] false (.tmp 47))), .mk (some 49) none (.call 68 [.tmp 48])]) (.ref 4)
def T33n6 : XC := .seq (.seq (.ops [.mk (some 33) none (.k (.mov (.tmp 0))), .mk (some 34) none (.k (.fld 1 (.tmp 7))), .mk (some 35) none (.k (.load [.int .i64] false (.tmp 34))), .mk (some 36) none (.k (.arith .sub .i64 (.tmp 35) (.const (.int .i64 1)))), .mk (some 37) none (.call 67 [.tmp 33, .tmp 36])]) (.ref 2)) (.ref 5)
def T33n7 : XC := .seq (.seq (.ops [.mk (some 22) none (.k (.mov (.tmp 5))), .mk (some 23) none (.k (.arith .add .i64 (.tmp 22) (.const (.int .i64 1)))), .mk (some 24) none (.k (.load [.slc] false (.tmp 3))), .mk (some 25) none (.k (.lenS (.tmp 24))), .mk (some 26) none (.k (.cmp .lss .i64 (.tmp 23) (.tmp 25)))]) (.cond (.tmp 26) (.ref 0) .skip)) (.ref 6)
def T33n8 : XC := .seq (.ops [.mk (some 18) none (.k (.mov (.tmp 6))), .mk (some 19) none (.k (.mov (.tmp 0))), .mk (some 20) none (.k (.lenS (.tmp 19))), .mk (some 21) none (.k (.build [.int .i64 0, .int .i64 0, .slice none 0 0] [(0, 1, .tmp 18), (1, 1, .tmp 20)])), .mk (some 7) none (.k (.alloc 35 [.int .i64 0, .int .i64 0, .slice none 0 0])), .mk none none (.k (.store 3 (.tmp 7) (.tmp 21)))]) (.ref 7)
def T33n9 : XC := .seq (.blk 1 (.seq (.ops [.mk (some 15) none (.k (.mov (.tmp 13))), .mk (some 16) none (.k (.idx 1 (.tmp 11) (.tmp 13))), .mk (some 17) none (.k (.load [.int .i64] false (.tmp 16))), .mk (some 5) none (.k (.mov (.tmp 15))), .mk (some 6) none (.k (.mov (.tmp 17)))]) (.ref 8))) (.ops [.mk (some 58) none (.k (.arith .add .i64 (.tmp 13) (.const (.int .i64 1)))), .mk (some 13) none (.k (.mov (.tmp 58)))])
def T33n10 : XC := .seq (.cond (.tmp 14) .skip (.exit 0)) (.ref 9)
def T33n11 : XC := .seq (.ops [.mk (some 14) none (.k (.cmp .lss .i64 (.tmp 13) (.tmp 12)))]) (.ref 10)
def T33n12 : XC := .seq (.ops [.mk (some 59) none (.k (.mov (.tmp 4))), .mk (some 2) none (.k (.mov (.tmp 59)))]) .ret
def T33n13 : XC := .seq (.seq (.ops [.mk (some 11) none (.k (.load [.slc] false (.tmp 3))), .mk (some 12) none (.k (.lenS (.tmp 11))), .mk (some 13) none (.k (.mov (.const (.int .i64 0))))]) (.blk 0 (.loop (.ref 11)))) (.ref 12)
def T33n14 : XC := .seq (.ops [.mk (some 4) none (.k (.mov (.const (.slice none 0 0))))]) (.ref 13)
def T33n15 : XC := .seq (.ops [.mk (some 9) none (.k (.mov (.tmp 0))), .mk (some 10) none (.call 48 [.tmp 9]), .mk (some 3) none (.k (.alloc 33 [.slice none 0 0])), .mk none none (.k (.store 1 (.tmp 3) (.tmp 10)))]) (.ref 14)
def T33 : Nat → XC
 | 0 => T33n0
 | 1 => T33n1
 | 2 => T33n2
 | 3 => T33n3
 | 4 => T33n4
 | 5 => T33n5
 | 6 => T33n6
 | 7 => T33n7
 | 8 => T33n8
 | 9 => T33n9
 | 10 => T33n10
 | 11 => T33n11
 | 12 => T33n12
 | 13 => T33n13
 | 14 => T33n14
 | 15 => T33n15
 | _ => .skip
theorem t33n0 : T33 0 = T33n0 := rfl
theorem t33n1 : T33 1 = T33n1 := rfl
theorem t33n2 : T33 2 = T33n2 := rfl
theorem t33n3 : T33 3 = T33n3 := rfl
theorem t33n4 : T33 4 = T33n4 := rfl
theorem t33n5 : T33 5 = T33n5 := rfl
theorem t33n6 : T33 6 = T33n6 := rfl
theorem t33n7 : T33 7 = T33n7 := rfl
theorem t33n8 : T33 8 = T33n8 := rfl
theorem t33n9 : T33 9 = T33n9 := rfl
theorem t33n10 : T33 10 = T33n10 := rfl
theorem t33n11 : T33 11 = T33n11 := rfl
theorem t33n12 : T33 12 = T33n12 := rfl
theorem t33n13 : T33 13 = T33n13 := rfl
theorem t33n14 : T33 14 = T33n14 := rfl
theorem t33n15 : T33 15 = T33n15 := rfl
def X33 : XC := .seq (.ops [.mk (some 2) none (.k (.mov (.const (.slice none 0 0))))]) (.ref 15)
abbrev K33 : List Nat := [0, 2, 3, 4, 5, 6, 7, 8, 11, 12, 13, 14, 26, 37, 38]
theorem n33 : Tryz.f33.ntmps = 60 := by kernel_rfl
theorem r33 : resT Tryz.f33.results.toList = some [2] := by kernel_rfl
theorem x33 : cmpF Tryz.prog Tryz.f33 = some (expand T33 17 X33) := by kernel_rfl
def T47n0 : XC := .seq (.ops [.mk (some 13) none (.k (.mov (.tmp 5))), .mk (some 4) none (.k (.mov (.tmp 13)))]) .ret
def T47n1 : XC := .seq (.ops [.mk (some 8) none (.k (.mov (.tmp 0))), .mk (some 9) none (.k (.mov (.tmp 1))), .mk (some 10) none (.call 78 [.tmp 8, .tmp 9]), .mk (some 7) none (.k (.mov (.tmp 10))), .mk (some 11) none (.k (.ext (.tmp 7) 0)), .mk (some 12) none (.k (.ext (.tmp 7) 1)), .mk (some 5) none (.k (.mov (.tmp 11))), .mk (some 6) none (.k (.mov (.tmp 12)))]) (.ref 0)
def T47 : Nat → XC
 | 0 => T47n0
 | 1 => T47n1
 | _ => .skip
theorem t47n0 : T47 0 = T47n0 := rfl
theorem t47n1 : T47 1 = T47n1 := rfl
def X47 : XC := .seq (.ops [.mk (some 4) none (.k (.mov (.const (.int .i64 0))))]) (.ref 1)
abbrev K47 : List Nat := [0, 1, 4, 5]
theorem n47 : Tryz.f47.ntmps = 14 := by kernel_rfl
theorem r47 : resT Tryz.f47.results.toList = some [4] := by kernel_rfl
theorem x47 : cmpF Tryz.prog Tryz.f47 = some (expand T47 3 X47) := by kernel_rfl
def T48n0 : XC := .seq (.ops [.mk (some 2) none (.k (.mov (.const (.slice none 0 0))))]) .ret
def T48n1 : XC := .ops [.mk (some 25) none (.k (.mov (.tmp 3))), .mk (some 26) none (.k (.mov (.tmp 4))), .mk (some 27) none (.k (.arith .add .i64 (.tmp 26) (.const (.int .i64 1)))), .mk (some 28) none (.k (.buildS 3 1 1 [.int .i64 0] [(0, .tmp 27)])), .mk (some 29) none (.k (.app 3 1 8 (.tmp 25) (.tmp 28))), .mk (some 3) none (.k (.mov (.tmp 29)))]
def T48n2 : XC := .ops [.mk (some 30) none (.k (.mov (.tmp 3))), .mk (some 31) none (.k (.mov (.tmp 0))), .mk (some 32) none (.k (.mov (.tmp 4))), .mk (some 33) none (.call 67 [.tmp 31, .tmp 32]), .mk (some 34) none (.call 80 [.tmp 30, .tmp 33]), .mk (some 3) none (.k (.mov (.tmp 34)))]
def T48n3 : XC := .seq (.seq (.ops [.mk (some 20) none (.k (.mov (.tmp 4))), .mk (some 21) none (.k (.arith .add .i64 (.tmp 20) (.const (.int .i64 1)))), .mk (some 22) none (.k (.mov (.tmp 0))), .mk (some 23) none (.k (.lenS (.tmp 22))), .mk (some 24) none (.k (.cmp .lss .i64 (.tmp 21) (.tmp 23)))]) (.cond (.tmp 24) (.ref 1) .skip)) (.ref 2)
def T48n4 : XC := .seq (.seq (.ops [.mk (some 17) none (.k (.load [.int .i64, .int .i64, .int .i64, .int .i64, .int .i64] true (.tmp 5))), .mk (some 18) none (.call 79 [.tmp 17]), .mk (some 19) none (.k (.not (.tmp 18)))]) (.cond (.tmp 19) (.exit 1) .skip)) (.ref 3)
def T48n5 : XC := .seq (.blk 1 (.seq (.ops [.mk (some 14) none (.k (.mov (.tmp 12))), .mk (some 15) none (.k (.idx 5 (.tmp 10) (.tmp 12))), .mk (some 16) none (.k (.load [.int .i64, .int .i64, .int .i64, .int .i64, .int .i64] true (.tmp 15))), .mk (some 5) none (.k (.alloc 41 [.int .i64 0, .int .i64 0, .int .i64 0, .int .i64 0, .int .i64 0])), .mk (some 4) none (.k (.mov (.tmp 14))), .mk none none (.k (.store 5 (.tmp 5) (.tmp 16)))]) (.ref 4))) (.ops [.mk (some 35) none (.k (.arith .add .i64 (.tmp 12) (.const (.int .i64 1)))), .mk (some 12) none (.k (.mov (.tmp 35)))])
def T48n6 : XC := .seq (.cond (.tmp 13) .skip (.exit 0)) (.ref 5)
def T48n7 : XC := .seq (.ops [.mk (some 13) none (.k (.cmp .lss .i64 (.tmp 12) (.tmp 11)))]) (.ref 6)
def T48n8 : XC := .seq (.ops [.mk (some 38) none (.k (.mov (.tmp 3))), .mk (some 39) none (.call 69 [.tmp 38]), .mk (some 2) none (.k (.mov (.tmp 39)))]) .ret
def T48n9 : XC := .seq (.ops [.mk (some 36) none (.k (.mov (.tmp 3))), .mk (some 37) none (.call 68 [.tmp 36])]) (.ref 8)
def T48n10 : XC := .seq (.seq (.ops [.mk (some 10) none (.k (.mov (.tmp 0))), .mk (some 11) none (.k (.lenS (.tmp 10))), .mk (some 12) none (.k (.mov (.const (.int .i64 0))))]) (.blk 0 (.loop (.ref 7)))) (.ref 9)
def T48n11 : XC := .seq (.ops [.mk (some 9) none (.k (.buildS 3 1 1 [.int .i64 0] [(0, .const (.int .i64 0))])), .mk (some 3) none (.k (.mov (.tmp 9)))]) (.ref 10)
def T48n12 : XC := .seq (.seq (.ops [.mk (some 6) none (.k (.mov (.tmp 0))), .mk (some 7) none (.k (.lenS (.tmp 6))), .mk (some 8) none (.k (.cmp .eql .i64 (.tmp 7) (.const (.int .i64 0))))]) (.cond (.tmp 8) (.ref 0) .skip)) (.ref 11)
def T48 : Nat → XC
 | 0 => T48n0
 | 1 => T48n1
 | 2 => T48n2
 | 3 => T48n3
 | 4 => T48n4
 | 5 => T48n5
 | 6 => T48n6
 | 7 => T48n7
 | 8 => T48n8
 | 9 => T48n9
 | 10 => T48n10
 | 11 => T48n11
 | 12 => T48n12
 | _ => .skip
theorem t48n0 : T48 0 = T48n0 := rfl
theorem t48n1 : T48 1 = T48n1 := rfl
theorem t48n2 : T48 2 = T48n2 := rfl
theorem t48n3 : T48 3 = T48n3 := rfl
theorem t48n4 : T48 4 = T48n4 := rfl
theorem t48n5 : T48 5 = T48n5 := rfl
theorem t48n6 : T48 6 = T48n6 := rfl
theorem t48n7 : T48 7 = T48n7 := rfl
theorem t48n8 : T48 8 = T48n8 := rfl
theorem t48n9 : T48 9 = T48n9 := rfl
theorem t48n10 : T48 10 = T48n10 := rfl
theorem t48n11 : T48 11 = T48n11 := rfl
theorem t48n12 : T48 12 = T48n12 := rfl
def X48 : XC := .seq (.ops [.mk (some 2) none (.k (.mov (.const (.slice none 0 0))))]) (.ref 12)
abbrev K48 : List Nat := [0, 2, 3, 4, 5, 8, 10, 11, 12, 13, 19, 24]
theorem n48 : Tryz.f48.ntmps = 40 := by kernel_rfl
theorem r48 : resT Tryz.f48.results.toList = some [2] := by kernel_rfl
theorem x48 : cmpF Tryz.prog Tryz.f48 = some (expand T48 14 X48) := by kernel_rfl
def T67n0 : XC := .seq (.ops [.mk (some 5) none (.k (.mkfn (.func 98) [] [.tmp 2, .tmp 3])), .mk (some 4) none (.k (.mov (.tmp 5)))]) .ret
def T67 : Nat → XC
 | 0 => T67n0
 | _ => .skip
theorem t67n0 : T67 0 = T67n0 := rfl
def X67 : XC := .seq (.ops [.mk (some 2) none (.k (.box 22 1 (.tmp 0))), .mk (some 3) none (.k (.box 3 1 (.tmp 1))), .mk (some 4) none (.k (.mov (.const .nilFunc)))]) (.ref 0)
abbrev K67 : List Nat := [0, 1, 2, 3, 4]
theorem n67 : Tryz.f67.ntmps = 6 := by kernel_rfl
theorem r67 : resT Tryz.f67.results.toList = some [4] := by kernel_rfl
theorem x67 : cmpF Tryz.prog Tryz.f67 = some (expand T67 2 X67) := by kernel_rfl
def T69n0 : XC := .seq (.ops [.mk (some 9) none (.k (.mov (.tmp 0))), .mk (some 2) none (.k (.mov (.tmp 9)))]) .ret
def T69n1 : XC := .ops [.mk (some 52) none (.k (.mov (.tmp 3))), .mk (some 53) none (.k (.arith .add .i64 (.tmp 52) (.const (.int .i64 1)))), .mk (some 3) none (.k (.mov (.tmp 53)))]
def T69n2 : XC := .seq (.ops [.mk (some 45) none (.k (.mov (.tmp 0))), .mk (some 46) none (.k (.mov (.tmp 3))), .mk (some 47) none (.k (.mov (.tmp 4))), .mk (some 48) none (.k (.mov (.tmp 5))), .mk (some 49) none (.k (.idx 1 (.tmp 47) (.tmp 48))), .mk (some 50) none (.k (.load [.int .i64] false (.tmp 49))), .mk (some 51) none (.k (.idx 1 (.tmp 45) (.tmp 46))), .mk none none (.k (.store 1 (.tmp 51) (.tmp 50)))]) (.ref 1)
def T69n3 : XC := .ops [.mk (some 33) none (.k (.mov (.tmp 5))), .mk (some 34) none (.k (.arith .add .i64 (.tmp 33) (.const (.int .i64 1)))), .mk (some 5) none (.k (.mov (.tmp 34)))]
def T69n4 : XC := .seq (.blk 3 (.seq (.ops [.mk (some 35) none (.k (.mov (.tmp 4))), .mk (some 36) none (.k (.mov (.tmp 5))), .mk (some 37) none (.k (.idx 1 (.tmp 35) (.tmp 36))), .mk (some 38) none (.k (.load [.int .i64] false (.tmp 37))), .mk (some 39) none (.k (.mov (.tmp 4))), .mk (some 40) none (.k (.mov (.tmp 5))), .mk (some 41) none (.k (.arith .sub .i64 (.tmp 40) (.const (.int .i64 1)))), .mk (some 42) none (.k (.idx 1 (.tmp 39) (.tmp 41))), .mk (some 43) none (.k (.load [.int .i64] false (.tmp 42))), .mk (some 44) none (.k (.cmp .neq .i64 (.tmp 38) (.tmp 43)))]) (.cond (.tmp 44) (.ref 2) .skip))) (.ref 3)
def T69n5 : XC := .seq (.seq (.ops [.mk (some 29) none (.k (.mov (.tmp 5))), .mk (some 30) none (.k (.mov (.tmp 4))), .mk (some 31) none (.k (.lenS (.tmp 30))), .mk (some 32) none (.k (.cmp .lss .i64 (.tmp 29) (.tmp 31)))]) (.cond (.tmp 32) .skip (.exit 2))) (.ref 4)
def T69n6 : XC := .seq (.ops [.mk (some 57) none (.k (.mov (.tmp 0))), .mk (some 58) none (.k (.mov (.tmp 3))), .mk (some 59) none (.k (.sub 1 (.tmp 57) none (some (.tmp 58)))), .mk (some 2) none (.k (.mov (.tmp 59)))]) .ret
def T69n7 : XC := .seq (.ops [.mk (some 54) none (.k (.mov (.tmp 0))), .mk (some 55) none (.k (.mov (.tmp 3))), .mk (some 56) none (.k (.sub 1 (.tmp 54) (some (.tmp 55)) none)), .mk none none (.k (.clr 1 [.int .i64 0] (.tmp 56)))]) (.ref 6)
def T69n8 : XC := .seq (.seq (.ops [.mk (some 5) none (.k (.mov (.const (.int .i64 1))))]) (.blk 2 (.loop (.ref 5)))) (.ref 7)
def T69n9 : XC := .seq (.ops [.mk (some 26) none (.k (.mov (.tmp 0))), .mk (some 27) none (.k (.mov (.tmp 3))), .mk (some 28) none (.k (.sub 1 (.tmp 26) (some (.tmp 27)) none)), .mk (some 4) none (.k (.mov (.tmp 28)))]) (.ref 8)
def T69n10 : XC := .ops [.mk (some 14) none (.k (.mov (.tmp 3))), .mk (some 15) none (.k (.arith .add .i64 (.tmp 14) (.const (.int .i64 1)))), .mk (some 3) none (.k (.mov (.tmp 15)))]
def T69n11 : XC := .seq (.blk 1 (.seq (.ops [.mk (some 16) none (.k (.mov (.tmp 0))), .mk (some 17) none (.k (.mov (.tmp 3))), .mk (some 18) none (.k (.idx 1 (.tmp 16) (.tmp 17))), .mk (some 19) none (.k (.load [.int .i64] false (.tmp 18))), .mk (some 20) none (.k (.mov (.tmp 0))), .mk (some 21) none (.k (.mov (.tmp 3))), .mk (some 22) none (.k (.arith .sub .i64 (.tmp 21) (.const (.int .i64 1)))), .mk (some 23) none (.k (.idx 1 (.tmp 20) (.tmp 22))), .mk (some 24) none (.k (.load [.int .i64] false (.tmp 23))), .mk (some 25) none (.k (.cmp .eql .i64 (.tmp 19) (.tmp 24)))]) (.cond (.tmp 25) (.ref 9) .skip))) (.ref 10)
def T69n12 : XC := .seq (.seq (.ops [.mk (some 10) none (.k (.mov (.tmp 3))), .mk (some 11) none (.k (.mov (.tmp 0))), .mk (some 12) none (.k (.lenS (.tmp 11))), .mk (some 13) none (.k (.cmp .lss .i64 (.tmp 10) (.tmp 12)))]) (.cond (.tmp 13) .skip (.exit 0))) (.ref 11)
def T69n13 : XC := .seq (.ops [.mk (some 60) none (.k (.mov (.tmp 0))), .mk (some 2) none (.k (.mov (.tmp 60)))]) .ret
def T69n14 : XC := .seq (.seq (.ops [.mk (some 3) none (.k (.mov (.const (.int .i64 1))))]) (.blk 0 (.loop (.ref 12)))) (.ref 13)
def T69n15 : XC := .seq (.seq (.ops [.mk (some 6) none (.k (.mov (.tmp 0))), .mk (some 7) none (.k (.lenS (.tmp 6))), .mk (some 8) none (.k (.cmp .lss .i64 (.tmp 7) (.const (.int .i64 2))))]) (.cond (.tmp 8) (.ref 0) .skip)) (.ref 14)
def T69 : Nat → XC
 | 0 => T69n0
 | 1 => T69n1
 | 2 => T69n2
 | 3 => T69n3
 | 4 => T69n4
 | 5 => T69n5
 | 6 => T69n6
 | 7 => T69n7
 | 8 => T69n8
 | 9 => T69n9
 | 10 => T69n10
 | 11 => T69n11
 | 12 => T69n12
 | 13 => T69n13
 | 14 => T69n14
 | 15 => T69n15
 | _ => .skip
theorem t69n0 : T69 0 = T69n0 := rfl
theorem t69n1 : T69 1 = T69n1 := rfl
theorem t69n2 : T69 2 = T69n2 := rfl
theorem t69n3 : T69 3 = T69n3 := rfl
theorem t69n4 : T69 4 = T69n4 := rfl
theorem t69n5 : T69 5 = T69n5 := rfl
theorem t69n6 : T69 6 = T69n6 := rfl
theorem t69n7 : T69 7 = T69n7 := rfl
theorem t69n8 : T69 8 = T69n8 := rfl
theorem t69n9 : T69 9 = T69n9 := rfl
theorem t69n10 : T69 10 = T69n10 := rfl
theorem t69n11 : T69 11 = T69n11 := rfl
theorem t69n12 : T69 12 = T69n12 := rfl
theorem t69n13 : T69 13 = T69n13 := rfl
theorem t69n14 : T69 14 = T69n14 := rfl
theorem t69n15 : T69 15 = T69n15 := rfl
def X69 : XC := .seq (.ops [.mk (some 2) none (.k (.mov (.const (.slice none 0 0))))]) (.ref 15)
abbrev K69 : List Nat := [0, 2, 3, 4, 5, 8, 13, 25, 32, 44]
theorem n69 : Tryz.f69.ntmps = 61 := by kernel_rfl
theorem r69 : resT Tryz.f69.results.toList = some [2] := by kernel_rfl
theorem x69 : cmpF Tryz.prog Tryz.f69 = some (expand T69 17 X69) := by kernel_rfl
def T79n0 : XC := .seq (.ops [.mk (some 3) none (.k (.load [.int .i64, .int .i64, .int .i64, .int .i64, .int .i64] true (.tmp 1))), .mk (some 4) none (.call 21 [.tmp 3]), .mk (some 5) none (.k (.not (.tmp 4))), .mk (some 6) none (.k (.mov (.tmp 5))), .mk (some 7) (some (6, false)) (.k (.fld 0 (.tmp 1))), .mk (some 8) (some (6, false)) (.k (.load [.int .i64] false (.tmp 7))), .mk (some 9) (some (6, false)) (.k (.cmp .eql .i64 (.tmp 8) (.const (.int .i64 1)))), .mk (some 10) none (.k (.pick (.tmp 6) (.const (.bool true)) (.tmp 9))), .mk (some 11) none (.k (.mov (.tmp 10))), .mk (some 12) (some (11, false)) (.k (.fld 0 (.tmp 1))), .mk (some 13) (some (11, false)) (.k (.load [.int .i64] false (.tmp 12))), .mk (some 14) (some (11, false)) (.call 99 [.tmp 13]), .mk (some 15) none (.k (.pick (.tmp 11) (.const (.bool true)) (.tmp 14))), .mk (some 2) none (.k (.mov (.tmp 15)))]) .ret
def T79 : Nat → XC
 | 0 => T79n0
 | _ => .skip
theorem t79n0 : T79 0 = T79n0 := rfl
def X79 : XC := .seq (.ops [.mk (some 1) none (.k (.box 41 5 (.tmp 0))), .mk (some 2) none (.k (.mov (.const (.bool false))))]) (.ref 0)
abbrev K79 : List Nat := [0, 1, 2]
theorem n79 : Tryz.f79.ntmps = 16 := by kernel_rfl
theorem r79 : resT Tryz.f79.results.toList = some [2] := by kernel_rfl
theorem x79 : cmpF Tryz.prog Tryz.f79 = some (expand T79 2 X79) := by kernel_rfl
def T80n0 : XC := .blk 1 (.ops [.mk (some 8) none (.k (.load [.slc] false (.tmp 2))), .mk (some 9) none (.k (.mov (.tmp 5))), .mk (some 10) none (.k (.buildS 3 1 1 [.int .i64 0] [(0, .tmp 9)])), .mk (some 11) none (.k (.app 3 1 8 (.tmp 8) (.tmp 10))), .mk none none (.k (.store 1 (.tmp 2) (.tmp 11)))])
def T80n1 : XC := .blk 0 (.rng (.tmp 6) [7] (.ops [.mk (some 5) none (.k (.mov (.tmp 7)))]) (.ref 0))
def T80n2 : XC := .seq (.ops [.mk (some 12) none (.k (.load [.slc] false (.tmp 2))), .mk (some 4) none (.k (.mov (.tmp 12)))]) .ret
def T80n3 : XC := .seq (.seq (.ops [.mk (some 6) none (.k (.mov (.tmp 1)))]) (.ref 1)) (.ref 2)
def T80 : Nat → XC
 | 0 => T80n0
 | 1 => T80n1
 | 2 => T80n2
 | 3 => T80n3
 | _ => .skip
theorem t80n0 : T80 0 = T80n0 := rfl
theorem t80n1 : T80 1 = T80n1 := rfl
theorem t80n2 : T80 2 = T80n2 := rfl
theorem t80n3 : T80 3 = T80n3 := rfl
def X80 : XC := .seq (.ops [.mk (some 2) none (.k (.box 33 1 (.tmp 0))), .mk (some 4) none (.k (.mov (.const (.slice none 0 0))))]) (.ref 3)
abbrev K80 : List Nat := [0, 1, 2, 4, 5, 6, 7]
theorem n80 : Tryz.f80.ntmps = 13 := by kernel_rfl
theorem r80 : resT Tryz.f80.results.toList = some [4] := by kernel_rfl
theorem x80 : cmpF Tryz.prog Tryz.f80 = some (expand T80 5 X80) := by kernel_rfl
def T98n0 : XC := .ops [.mk (some 49) none (.k (.mov (.tmp 0))), .mk (some 50) none (.k (.load [.int .i64] false (.tmp 2))), .mk (some 51) none (.k (.arith .add .i64 (.tmp 50) (.const (.int .i64 1)))), .mk (some 52) none (.callv (.tmp 49) [.tmp 51])]
def T98n1 : XC := .seq (.ops [.mk (some 39) none (.k (.fld 0 (.tmp 4))), .mk (some 40) none (.k (.load [.int .i64] false (.tmp 39))), .mk (some 41) none (.k (.cmp .neq .i64 (.tmp 40) (.const (.int .i64 13)))), .mk (some 42) none (.k (.mov (.tmp 41))), .mk (some 43) (some (42, true)) (.k (.load [.int .i64] false (.tmp 2))), .mk (some 44) (some (42, true)) (.k (.arith .add .i64 (.tmp 43) (.const (.int .i64 1)))), .mk (some 45) (some (42, true)) (.k (.load [.slc] false (.tmp 1))), .mk (some 46) (some (42, true)) (.k (.lenS (.tmp 45))), .mk (some 47) (some (42, true)) (.k (.cmp .lss .i64 (.tmp 44) (.tmp 46))), .mk (some 48) none (.k (.pick (.tmp 42) (.tmp 47) (.const (.bool false))))]) (.cond (.tmp 48) (.ref 0) .skip)
def T98n2 : XC := .seq (.seq (.ops [.mk (some 17) none (.k (.fld 0 (.tmp 4))), .mk (some 18) none (.k (.load [.int .i64] false (.tmp 17))), .mk (some 19) none (.call 99 [.tmp 18]), .mk (some 20) none (.k (.mov (.tmp 19))), .mk (some 21) (some (20, true)) (.k (.fld 4 (.tmp 4))), .mk (some 22) (some (20, true)) (.k (.load [.int .i64] false (.tmp 21))), .mk (some 23) (some (20, true)) (.k (.cmp .geq .i64 (.tmp 22) (.const (.int .i64 0)))), .mk (some 24) none (.k (.pick (.tmp 20) (.tmp 23) (.const (.bool false)))), .mk (some 25) none (.k (.mov (.tmp 24))), .mk (some 26) (some (25, true)) (.k (.fld 4 (.tmp 4))), .mk (some 27) (some (25, true)) (.k (.load [.int .i64] false (.tmp 26))), .mk (some 28) (some (25, true)) (.k (.load [.slc] false (.tmp 1))), .mk (some 29) (some (25, true)) (.k (.lenS (.tmp 28))), .mk (some 30) (some (25, true)) (.k (.cmp .lss .i64 (.tmp 27) (.tmp 29))), .mk (some 31) none (.k (.pick (.tmp 25) (.tmp 30) (.const (.bool false)))), .mk (some 32) none (.k (.mov (.tmp 31))), .mk (some 33) (some (32, true)) (.k (.mov (.tmp 0))), .mk (some 34) (some (32, true)) (.k (.fld 4 (.tmp 4))), .mk (some 35) (some (32, true)) (.k (.load [.int .i64] false (.tmp 34))), .mk (some 36) (some (32, true)) (.callv (.tmp 33) [.tmp 35]), .mk (some 37) (some (32, true)) (.k (.not (.tmp 36))), .mk (some 38) none (.k (.pick (.tmp 32) (.tmp 37) (.const (.bool false))))]) (.cond (.tmp 38) .ret .skip)) (.ref 1)
def T98n3 : XC := .seq (.seq (.ops [.mk (some 9) none (.k (.load [.int .i64, .int .i64, .int .i64, .int .i64, .int .i64] true (.tmp 4))), .mk (some 10) none (.call 21 [.tmp 9]), .mk (some 11) none (.k (.not (.tmp 10))), .mk (some 12) none (.k (.mov (.tmp 11))), .mk (some 13) (some (12, false)) (.k (.fld 0 (.tmp 4))), .mk (some 14) (some (12, false)) (.k (.load [.int .i64] false (.tmp 13))), .mk (some 15) (some (12, false)) (.k (.cmp .eql .i64 (.tmp 14) (.const (.int .i64 1)))), .mk (some 16) none (.k (.pick (.tmp 12) (.const (.bool true)) (.tmp 15)))]) (.cond (.tmp 16) .ret .skip)) (.ref 2)
def T98 : Nat → XC
 | 0 => T98n0
 | 1 => T98n1
 | 2 => T98n2
 | 3 => T98n3
 | _ => .skip
theorem t98n0 : T98 0 = T98n0 := rfl
theorem t98n1 : T98 1 = T98n1 := rfl
theorem t98n2 : T98 2 = T98n2 := rfl
theorem t98n3 : T98 3 = T98n3 := rfl
def X98 : XC := .seq (.ops [.mk (some 5) none (.k (.load [.slc] false (.tmp 1))), .mk (some 6) none (.k (.load [.int .i64] false (.tmp 2))), .mk (some 7) none (.k (.idx 5 (.tmp 5) (.tmp 6))), .mk (some 8) none (.k (.load [.int .i64, .int .i64, .int .i64, .int .i64, .int .i64] true (.tmp 7))), .mk (some 4) none (.k (.alloc 41 [.int .i64 0, .int .i64 0, .int .i64 0, .int .i64 0, .int .i64 0])), .mk none none (.k (.store 5 (.tmp 4) (.tmp 8)))]) (.ref 3)
abbrev K98 : List Nat := [0, 1, 2, 4, 16, 38, 48]
theorem n98 : Tryz.f98.ntmps = 53 := by kernel_rfl
theorem r98 : resT Tryz.f98.results.toList = some [] := by kernel_rfl
theorem x98 : cmpF Tryz.prog Tryz.f98 = some (expand T98 5 X98) := by kernel_rfl
def T99n0 : XC := .seq (.ops [.mk (some 3) none (.k (.mov (.tmp 0))), .mk (some 4) none (.k (.cmp .geq .i64 (.tmp 3) (.const (.int .i64 13)))), .mk (some 5) none (.k (.mov (.tmp 4))), .mk (some 6) (some (5, true)) (.k (.mov (.tmp 0))), .mk (some 7) (some (5, true)) (.k (.cmp .leq .i64 (.tmp 6) (.const (.int .i64 16)))), .mk (some 8) none (.k (.pick (.tmp 5) (.tmp 7) (.const (.bool false)))), .mk (some 2) none (.k (.mov (.tmp 8)))]) .ret
def T99 : Nat → XC
 | 0 => T99n0
 | _ => .skip
theorem t99n0 : T99 0 = T99n0 := rfl
def X99 : XC := .seq (.ops [.mk (some 2) none (.k (.mov (.const (.bool false))))]) (.ref 0)
abbrev K99 : List Nat := [0, 2]
theorem n99 : Tryz.f99.ntmps = 9 := by kernel_rfl
theorem r99 : resT Tryz.f99.results.toList = some [2] := by kernel_rfl
theorem x99 : cmpF Tryz.prog Tryz.f99 = some (expand T99 2 X99) := by kernel_rfl
def T17n0 : XC := .seq (.ops [.mk (some 2) none (.k (.mov (.const (.slice none 0 0)))), .mk (some 3) none (.k (.mov (.const (.int .i64 2))))]) .ret
def T17n1 : XC := .seq (.ops [.mk (some 7) none (.k (.mov (.tmp 0))), .mk (some 8) none (.call 33 [.tmp 7]), .mk (some 2) none (.k (.mov (.tmp 8))), .mk (some 3) none (.k (.mov (.const (.int .i64 0))))]) .ret
def T17n2 : XC := .seq (.seq (.ops [.mk (some 4) none (.k (.mov (.tmp 0))), .mk (some 5) none (.k (.lenS (.tmp 4))), .mk (some 6) none (.k (.cmp .gtr .i64 (.tmp 5) (.const (.int .i64 1024))))]) (.cond (.tmp 6) (.ref 0) .skip)) (.ref 1)
def T17 : Nat → XC
 | 0 => T17n0
 | 1 => T17n1
 | 2 => T17n2
 | _ => .skip
theorem t17n0 : T17 0 = T17n0 := rfl
theorem t17n1 : T17 1 = T17n1 := rfl
theorem t17n2 : T17 2 = T17n2 := rfl
def X17 : XC := .seq (.ops [.mk (some 2) none (.k (.mov (.const (.slice none 0 0)))), .mk (some 3) none (.k (.mov (.const (.int .i64 0))))]) (.ref 2)
abbrev K17 : List Nat := [0, 2, 3, 6]
theorem n17 : Tryz.f17.ntmps = 9 := by kernel_rfl
theorem r17 : resT Tryz.f17.results.toList = some [2, 3] := by kernel_rfl
theorem x17 : cmpF Tryz.prog Tryz.f17 = some (expand T17 4 X17) := by kernel_rfl
end Go.Proofs.YtlbiogokpadaoaaGreatDoor
