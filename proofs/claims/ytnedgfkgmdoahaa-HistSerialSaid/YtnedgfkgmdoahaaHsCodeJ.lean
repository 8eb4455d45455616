/- Printed by program: the small code of functions, and that it is theirs. -/
import Derived.Test.YtnedgfkgmdoahaaSxStill
import Derived.Test.YtnedgfkgmdoahaaProg
import Derived.KernelRfl
set_option linter.unusedSimpArgs false
set_option linter.unusedVariables false
set_option linter.unnecessarySimpa false
namespace Go.Proofs.Ytnedgfkgmdoahaa
open Go Go.Sx
set_option maxRecDepth 100000
def T40n0 : XC := .seq (.ops [.mk (some 19) none (.k (.mov (.tmp 8))), .mk none none (.k (.store 1 (.tmp 4) (.const (.int .i64 0)))), .mk none none (.k (.store 1 (.tmp 5) (.const (.bool false)))), .mk none none (.k (.store 1 (.tmp 6) (.tmp 19)))]) .ret
def T40n1 : XC := .seq (.ops [.mk (some 10) none (.k (.mov (.tmp 25)))]) (.ops [.mk (some 11) none (.k (.mov (.tmp 26)))])
def T40n2 : XC := .seq (.ops [.mk (some 35) none (.k (.mov (.tmp 10))), .mk none none (.k (.store 1 (.tmp 4) (.tmp 35))), .mk none none (.k (.store 1 (.tmp 5) (.const (.bool false)))), .mk none none (.k (.store 1 (.tmp 6) (.const (.int .i64 0))))]) .ret
def T40n3 : XC := .ops [.mk (some 36) none (.k (.load [.map] false (.tmp 9))), .mk (some 37) none (.k (.load [.slc] false (.tmp 2))), .mk (some 38) none (.k (.mov (.tmp 10))), .mk (some 39) none (.k (.idx 9 (.tmp 37) (.tmp 38))), .mk (some 40) none (.k (.load [.int .i64, .int .i64, .int .i64, .int .i64, .int .i64, .int .i64, .int .i64, .int .u64, .int .i64] true (.tmp 39))), .mk (some 41) none (.k (.mov (.tmp 11))), .mk (some 42) none (.call 64 [.tmp 36, .tmp 40, .tmp 41])]
def T40n4 : XC := .blk 1 (.seq (.seq (.ops [.mk (some 27) none (.k (.load [.map] false (.tmp 9))), .mk (some 28) none (.k (.load [.slc] false (.tmp 2))), .mk (some 29) none (.k (.mov (.tmp 10))), .mk (some 30) none (.k (.idx 9 (.tmp 28) (.tmp 29))), .mk (some 31) none (.k (.load [.int .i64, .int .i64, .int .i64, .int .i64, .int .i64, .int .i64, .int .i64, .int .u64, .int .i64] true (.tmp 30))), .mk (some 32) none (.k (.mov (.tmp 11))), .mk (some 33) none (.call 63 [.tmp 27, .tmp 31, .tmp 32]), .mk (some 34) none (.k (.not (.tmp 33)))]) (.cond (.tmp 34) (.ref 2) .skip)) (.ref 3))
def T40n5 : XC := .blk 0 (.rng (.tmp 24) [25, 26] (.ref 1) (.ref 4))
def T40n6 : XC := .seq (.ops [.mk none none (.k (.store 1 (.tmp 4) (.const (.int .i64 0)))), .mk none none (.k (.store 1 (.tmp 5) (.const (.bool true)))), .mk none none (.k (.store 1 (.tmp 6) (.const (.int .i64 0))))]) .ret
def T40n7 : XC := .seq (.seq (.ops [.mk (some 22) none (.k (.load [.slc] false (.tmp 2))), .mk (some 23) none (.k (.mov (.tmp 7))), .mk (some 24) none (.call 62 [.tmp 22, .tmp 23])]) (.ref 5)) (.ref 6)
def T40n8 : XC := .seq (.ops [.mk (some 20) none (.k (.mov (.tmp 1))), .mk (some 21) none (.call 61 [.tmp 20]), .mk (some 9) none (.k (.alloc 132 [.map none])), .mk none none (.k (.store 1 (.tmp 9) (.tmp 21)))]) (.ref 7)
def T40n9 : XC := .seq (.seq (.ops [.mk (some 17) none (.k (.mov (.tmp 8))), .mk (some 18) none (.k (.cmp .neq .i64 (.tmp 17) (.const (.int .i64 0))))]) (.cond (.tmp 18) (.ref 0) .skip)) (.ref 8)
def T40n10 : XC := .seq (.ops [.mk (some 13) none (.k (.load [.slc] false (.tmp 2))), .mk (some 14) none (.call 54 [.tmp 13]), .mk (some 12) none (.k (.mov (.tmp 14))), .mk (some 15) none (.k (.ext (.tmp 12) 0)), .mk (some 16) none (.k (.ext (.tmp 12) 1)), .mk (some 7) none (.k (.mov (.tmp 15))), .mk (some 8) none (.k (.mov (.tmp 16)))]) (.ref 9)
def T40 : Nat → XC
 | 0 => T40n0
 | 1 => T40n1
 | 2 => T40n2
 | 3 => T40n3
 | 4 => T40n4
 | 5 => T40n5
 | 6 => T40n6
 | 7 => T40n7
 | 8 => T40n8
 | 9 => T40n9
 | 10 => T40n10
 | _ => .skip
theorem t40n0 : T40 0 = T40n0 := rfl
theorem t40n1 : T40 1 = T40n1 := rfl
theorem t40n2 : T40 2 = T40n2 := rfl
theorem t40n3 : T40 3 = T40n3 := rfl
theorem t40n4 : T40 4 = T40n4 := rfl
theorem t40n5 : T40 5 = T40n5 := rfl
theorem t40n6 : T40 6 = T40n6 := rfl
theorem t40n7 : T40 7 = T40n7 := rfl
theorem t40n8 : T40 8 = T40n8 := rfl
theorem t40n9 : T40 9 = T40n9 := rfl
theorem t40n10 : T40 10 = T40n10 := rfl
def X40 : XC := .seq (.ops [.mk (some 2) none (.k (.box 62 1 (.tmp 0))), .mk (some 4) none (.k (.alloc 3 [.int .i64 0])), .mk (some 5) none (.k (.alloc 4 [.bool false])), .mk (some 6) none (.k (.alloc 35 [.int .i64 0]))]) (.ref 10)
abbrev K40 : List Nat := [0, 1, 2, 4, 5, 6, 7, 8, 9, 10, 11, 18, 24, 25, 26, 34]
theorem n40 : Try.f40.ntmps = 43 := by kernel_rfl
theorem r40 : rvOf Try.prog Try.f40.results.toList = some [RV.cell 4 1 false, RV.cell 5 1 false, RV.cell 6 1 false] := by kernel_rfl
theorem x40 : cmpF Try.prog Try.f40 = some (expand T40 12 X40) := by kernel_rfl
def T41n0 : XC := .seq (.ops [.mk (some 6) none (.k (.mov (.const (.slice none 0 0)))), .mk (some 7) none (.k (.mov (.const (.int .i64 120))))]) .ret
def T41n1 : XC := .seq (.ops [.mk (some 11) none (.k (.mov (.tmp 35)))]) (.ops [.mk (some 12) none (.k (.mov (.tmp 36)))])
def T41n2 : XC := .blk 1 (.ops [.mk (some 37) none (.k (.load [.map] false (.tmp 10))), .mk (some 38) none (.k (.load [.slc] false (.tmp 3))), .mk (some 39) none (.k (.mov (.tmp 11))), .mk (some 40) none (.k (.idx 9 (.tmp 38) (.tmp 39))), .mk (some 41) none (.k (.load [.int .i64, .int .i64, .int .i64, .int .i64, .int .i64, .int .i64, .int .i64, .int .u64, .int .i64] true (.tmp 40))), .mk (some 42) none (.k (.mov (.tmp 12))), .mk (some 43) none (.call 64 [.tmp 37, .tmp 41, .tmp 42])])
def T41n3 : XC := .blk 0 (.rng (.tmp 34) [35, 36] (.ref 1) (.ref 2))
def T41n4 : XC := .ops [.mk (some 51) none (.k (.mov (.tmp 13))), .mk (some 52) none (.k (.mov (.tmp 14))), .mk (some 53) none (.k (.load [.map] false (.tmp 10))), .mk (some 54) none (.k (.mov (.tmp 14))), .mk (some 55) none (.k (.lkup (.int .i64) (.int .u64 0) false (.tmp 53) (.tmp 54))), .mk (some 56) none (.k (.idx 1 (.tmp 51) (.tmp 52))), .mk none none (.k (.store 1 (.tmp 56) (.tmp 55)))]
def T41n5 : XC := .seq (.blk 3 (.seq (.ops [.mk (some 50) none (.k (.mov (.tmp 48))), .mk (some 14) none (.k (.mov (.tmp 50)))]) (.ref 4))) (.ops [.mk (some 57) none (.k (.arith .add .i64 (.tmp 48) (.const (.int .i64 1)))), .mk (some 48) none (.k (.mov (.tmp 57)))])
def T41n6 : XC := .seq (.cond (.tmp 49) .skip (.exit 2)) (.ref 5)
def T41n7 : XC := .seq (.ops [.mk (some 49) none (.k (.cmp .lss .i64 (.tmp 48) (.tmp 47)))]) (.ref 6)
def T41n8 : XC := .seq (.ops [.mk (some 58) none (.k (.mov (.tmp 13))), .mk (some 6) none (.k (.mov (.tmp 58))), .mk (some 7) none (.k (.mov (.const (.int .i64 0))))]) .ret
def T41n9 : XC := .seq (.seq (.ops [.mk (some 46) none (.k (.mov (.tmp 13))), .mk (some 47) none (.k (.lenS (.tmp 46))), .mk (some 48) none (.k (.mov (.const (.int .i64 0))))]) (.blk 2 (.loop (.ref 7)))) (.ref 8)
def T41n10 : XC := .seq (.ops [.mk (some 44) none (.k (.mov (.tmp 2))), .mk (some 45) none (.k (.mkslc 63 1 8 [.int .u64 0] (.tmp 44) (.tmp 44))), .mk (some 13) none (.k (.mov (.tmp 45)))]) (.ref 9)
def T41n11 : XC := .seq (.seq (.ops [.mk (some 32) none (.k (.load [.slc] false (.tmp 3))), .mk (some 33) none (.k (.mov (.tmp 8))), .mk (some 34) none (.call 62 [.tmp 32, .tmp 33])]) (.ref 3)) (.ref 10)
def T41n12 : XC := .seq (.ops [.mk (some 30) none (.k (.mov (.tmp 1))), .mk (some 31) none (.call 61 [.tmp 30]), .mk (some 10) none (.k (.alloc 132 [.map none])), .mk none none (.k (.store 1 (.tmp 10) (.tmp 31)))]) (.ref 11)
def T41n13 : XC := .seq (.seq (.ops [.mk (some 20) none (.k (.mov (.tmp 9))), .mk (some 21) none (.k (.cmp .neq .i64 (.tmp 20) (.const (.int .i64 0)))), .mk (some 22) none (.k (.mov (.tmp 21))), .mk (some 23) (some (22, false)) (.k (.mov (.tmp 2))), .mk (some 24) (some (22, false)) (.k (.cmp .lss .i64 (.tmp 23) (.const (.int .i64 0)))), .mk (some 25) none (.k (.pick (.tmp 22) (.const (.bool true)) (.tmp 24))), .mk (some 26) none (.k (.mov (.tmp 25))), .mk (some 27) (some (26, false)) (.k (.mov (.tmp 2))), .mk (some 28) (some (26, false)) (.k (.cmp .gtr .i64 (.tmp 27) (.const (.int .i64 512)))), .mk (some 29) none (.k (.pick (.tmp 26) (.const (.bool true)) (.tmp 28)))]) (.cond (.tmp 29) (.ref 0) .skip)) (.ref 12)
def T41n14 : XC := .seq (.ops [.mk (some 16) none (.k (.load [.slc] false (.tmp 3))), .mk (some 17) none (.call 54 [.tmp 16]), .mk (some 15) none (.k (.mov (.tmp 17))), .mk (some 18) none (.k (.ext (.tmp 15) 0)), .mk (some 19) none (.k (.ext (.tmp 15) 1)), .mk (some 8) none (.k (.mov (.tmp 18))), .mk (some 9) none (.k (.mov (.tmp 19)))]) (.ref 13)
def T41 : Nat → XC
 | 0 => T41n0
 | 1 => T41n1
 | 2 => T41n2
 | 3 => T41n3
 | 4 => T41n4
 | 5 => T41n5
 | 6 => T41n6
 | 7 => T41n7
 | 8 => T41n8
 | 9 => T41n9
 | 10 => T41n10
 | 11 => T41n11
 | 12 => T41n12
 | 13 => T41n13
 | 14 => T41n14
 | _ => .skip
theorem t41n0 : T41 0 = T41n0 := rfl
theorem t41n1 : T41 1 = T41n1 := rfl
theorem t41n2 : T41 2 = T41n2 := rfl
theorem t41n3 : T41 3 = T41n3 := rfl
theorem t41n4 : T41 4 = T41n4 := rfl
theorem t41n5 : T41 5 = T41n5 := rfl
theorem t41n6 : T41 6 = T41n6 := rfl
theorem t41n7 : T41 7 = T41n7 := rfl
theorem t41n8 : T41 8 = T41n8 := rfl
theorem t41n9 : T41 9 = T41n9 := rfl
theorem t41n10 : T41 10 = T41n10 := rfl
theorem t41n11 : T41 11 = T41n11 := rfl
theorem t41n12 : T41 12 = T41n12 := rfl
theorem t41n13 : T41 13 = T41n13 := rfl
theorem t41n14 : T41 14 = T41n14 := rfl
def X41 : XC := .seq (.ops [.mk (some 3) none (.k (.box 62 1 (.tmp 0))), .mk (some 6) none (.k (.mov (.const (.slice none 0 0)))), .mk (some 7) none (.k (.mov (.const (.int .i64 0))))]) (.ref 14)
abbrev K41 : List Nat := [0, 1, 2, 3, 6, 7, 8, 9, 10, 11, 12, 13, 14, 29, 34, 35, 36, 47, 48, 49]
theorem n41 : Try.f41.ntmps = 59 := by kernel_rfl
theorem r41 : resT Try.f41.results.toList = some [6, 7] := by kernel_rfl
theorem x41 : cmpF Try.prog Try.f41 = some (expand T41 16 X41) := by kernel_rfl
def T61n0 : XC := .ops [.mk (some 14) none (.k (.mov (.tmp 3))), .mk (some 15) none (.k (.mov (.tmp 4))), .mk (some 16) none (.k (.mov (.tmp 5))), .mk none none (.k (.mupd (.int .i64) (.tmp 14) (.tmp 15) (.tmp 16)))]
def T61n1 : XC := .seq (.blk 1 (.seq (.ops [.mk (some 11) none (.k (.mov (.tmp 9))), .mk (some 12) none (.k (.idx 1 (.tmp 7) (.tmp 9))), .mk (some 13) none (.k (.load [.int .u64] false (.tmp 12))), .mk (some 4) none (.k (.mov (.tmp 11))), .mk (some 5) none (.k (.mov (.tmp 13)))]) (.ref 0))) (.ops [.mk (some 17) none (.k (.arith .add .i64 (.tmp 9) (.const (.int .i64 1)))), .mk (some 9) none (.k (.mov (.tmp 17)))])
def T61n2 : XC := .seq (.cond (.tmp 10) .skip (.exit 0)) (.ref 1)
def T61n3 : XC := .seq (.ops [.mk (some 10) none (.k (.cmp .lss .i64 (.tmp 9) (.tmp 8)))]) (.ref 2)
def T61n4 : XC := .seq (.ops [.mk (some 18) none (.k (.mov (.tmp 3))), .mk (some 2) none (.k (.mov (.tmp 18)))]) .ret
def T61n5 : XC := .seq (.seq (.ops [.mk (some 7) none (.k (.mov (.tmp 0))), .mk (some 8) none (.k (.lenS (.tmp 7))), .mk (some 9) none (.k (.mov (.const (.int .i64 0))))]) (.blk 0 (.loop (.ref 3)))) (.ref 4)
def T61n6 : XC := .seq (.ops [.mk (some 6) none (.k .mkmap), .mk (some 3) none (.k (.mov (.tmp 6)))]) (.ref 5)
def T61 : Nat → XC
 | 0 => T61n0
 | 1 => T61n1
 | 2 => T61n2
 | 3 => T61n3
 | 4 => T61n4
 | 5 => T61n5
 | 6 => T61n6
 | _ => .skip
theorem t61n0 : T61 0 = T61n0 := rfl
theorem t61n1 : T61 1 = T61n1 := rfl
theorem t61n2 : T61 2 = T61n2 := rfl
theorem t61n3 : T61 3 = T61n3 := rfl
theorem t61n4 : T61 4 = T61n4 := rfl
theorem t61n5 : T61 5 = T61n5 := rfl
theorem t61n6 : T61 6 = T61n6 := rfl
def X61 : XC := .seq (.ops [.mk (some 2) none (.k (.mov (.const (.map none))))]) (.ref 6)
abbrev K61 : List Nat := [0, 2, 3, 4, 5, 7, 8, 9, 10]
theorem n61 : Try.f61.ntmps = 19 := by kernel_rfl
theorem r61 : resT Try.f61.results.toList = some [2] := by kernel_rfl
theorem x61 : cmpF Try.prog Try.f61 = some (expand T61 8 X61) := by kernel_rfl
def T62n0 : XC := .ops [.mk (some 21) none (.k (.load [.map] false (.tmp 5))), .mk (some 22) none (.k (.mov (.tmp 7))), .mk (some 23) none (.k (.nilc (.tmp 22))), .mk (some 24) none (.k (.fld 0 (.tmp 23))), .mk (some 25) none (.k (.fld 5 (.tmp 24))), .mk (some 26) none (.k (.load [.int .i64] false (.tmp 25))), .mk (some 27) none (.k (.mov (.tmp 7))), .mk none none (.k (.mupd (.int .i64) (.tmp 21) (.tmp 26) (.tmp 27)))]
def T62n1 : XC := .seq (.ops [.mk (some 15) none (.k (.mov (.tmp 7))), .mk (some 16) none (.k (.nilc (.tmp 15))), .mk (some 17) none (.k (.fld 0 (.tmp 16))), .mk (some 18) none (.k (.fld 5 (.tmp 17))), .mk (some 19) none (.k (.load [.int .i64] false (.tmp 18))), .mk (some 20) none (.k (.cmp .geq .i64 (.tmp 19) (.const (.int .i64 0))))]) (.cond (.tmp 20) (.ref 0) .skip)
def T62n2 : XC := .seq (.blk 1 (.seq (.ops [.mk (some 13) none (.k (.idx 1 (.tmp 9) (.tmp 11))), .mk (some 14) none (.k (.load [.ptr] false (.tmp 13))), .mk (some 7) none (.k (.mov (.tmp 14)))]) (.ref 1))) (.ops [.mk (some 28) none (.k (.arith .add .i64 (.tmp 11) (.const (.int .i64 1)))), .mk (some 11) none (.k (.mov (.tmp 28)))])
def T62n3 : XC := .seq (.cond (.tmp 12) .skip (.exit 0)) (.ref 2)
def T62n4 : XC := .seq (.ops [.mk (some 12) none (.k (.cmp .lss .i64 (.tmp 11) (.tmp 10)))]) (.ref 3)
def T62n5 : XC := .seq (.ops [.mk (some 29) none (.k (.mkfn (.func 73) [] [.tmp 2, .tmp 5])), .mk (some 4) none (.k (.mov (.tmp 29)))]) .ret
def T62n6 : XC := .seq (.seq (.ops [.mk (some 9) none (.k (.mov (.tmp 1))), .mk (some 10) none (.k (.lenS (.tmp 9))), .mk (some 11) none (.k (.mov (.const (.int .i64 0))))]) (.blk 0 (.loop (.ref 4)))) (.ref 5)
def T62n7 : XC := .seq (.ops [.mk (some 8) none (.k .mkmap), .mk (some 5) none (.k (.alloc 148 [.map none])), .mk none none (.k (.store 1 (.tmp 5) (.tmp 8)))]) (.ref 6)
def T62 : Nat → XC
 | 0 => T62n0
 | 1 => T62n1
 | 2 => T62n2
 | 3 => T62n3
 | 4 => T62n4
 | 5 => T62n5
 | 6 => T62n6
 | 7 => T62n7
 | _ => .skip
theorem t62n0 : T62 0 = T62n0 := rfl
theorem t62n1 : T62 1 = T62n1 := rfl
theorem t62n2 : T62 2 = T62n2 := rfl
theorem t62n3 : T62 3 = T62n3 := rfl
theorem t62n4 : T62 4 = T62n4 := rfl
theorem t62n5 : T62 5 = T62n5 := rfl
theorem t62n6 : T62 6 = T62n6 := rfl
theorem t62n7 : T62 7 = T62n7 := rfl
def X62 : XC := .seq (.ops [.mk (some 2) none (.k (.box 62 1 (.tmp 0))), .mk (some 4) none (.k (.mov (.const .nilFunc)))]) (.ref 7)
abbrev K62 : List Nat := [0, 1, 2, 4, 5, 7, 9, 10, 11, 12, 20]
theorem n62 : Try.f62.ntmps = 30 := by kernel_rfl
theorem r62 : resT Try.f62.results.toList = some [4] := by kernel_rfl
theorem x62 : cmpF Try.prog Try.f62 = some (expand T62 9 X62) := by kernel_rfl
def T63n0 : XC := .seq (.ops [.mk (some 9) none (.k (.fld 0 (.tmp 4))), .mk (some 10) none (.k (.load [.int .i64] false (.tmp 9))), .mk (some 11) none (.k (.cmp .neq .i64 (.tmp 10) (.const (.int .i64 7)))), .mk (some 12) none (.k (.mov (.tmp 11))), .mk (some 13) (some (12, false)) (.k (.load [.map] false (.tmp 3))), .mk (some 14) (some (12, false)) (.k (.fld 6 (.tmp 4))), .mk (some 15) (some (12, false)) (.k (.load [.int .i64] false (.tmp 14))), .mk (some 16) (some (12, false)) (.k (.lkup (.int .i64) (.int .u64 0) false (.tmp 13) (.tmp 15))), .mk (some 17) (some (12, false)) (.k (.fld 7 (.tmp 4))), .mk (some 18) (some (12, false)) (.k (.load [.int .u64] false (.tmp 17))), .mk (some 19) (some (12, false)) (.k (.cmp .eql .u64 (.tmp 16) (.tmp 18))), .mk (some 20) none (.k (.pick (.tmp 12) (.const (.bool true)) (.tmp 19))), .mk (some 6) none (.k (.mov (.tmp 20)))]) .ret
def T63n1 : XC := .seq (.ops [.mk (some 21) none (.k (.mov (.tmp 2))), .mk (some 22) none (.k (.nilc (.tmp 21))), .mk (some 23) none (.k (.fld 11 (.tmp 22))), .mk (some 24) none (.k (.load [.bool] false (.tmp 23))), .mk (some 25) none (.k (.not (.tmp 24))), .mk (some 26) none (.k (.mov (.tmp 25))), .mk (some 27) (some (26, true)) (.k (.mov (.tmp 2))), .mk (some 28) (some (26, true)) (.k (.nilc (.tmp 27))), .mk (some 29) (some (26, true)) (.k (.fld 0 (.tmp 28))), .mk (some 30) (some (26, true)) (.k (.fld 7 (.tmp 29))), .mk (some 31) (some (26, true)) (.k (.load [.slc] false (.tmp 30))), .mk (some 32) (some (26, true)) (.k (.mkfn (.func 75) [] [.tmp 3])), .mk (some 33) (some (26, true)) (.call 74 [.tmp 31, .tmp 32]), .mk (some 34) (some (26, true)) (.k (.not (.tmp 33))), .mk (some 35) none (.k (.pick (.tmp 26) (.tmp 34) (.const (.bool false)))), .mk (some 6) none (.k (.mov (.tmp 35)))]) .ret
def T63n2 : XC := .seq (.seq (.ops [.mk (some 7) none (.k (.mov (.tmp 2))), .mk (some 8) none (.k (.isnil NK.p false (.tmp 7)))]) (.cond (.tmp 8) (.ref 0) .skip)) (.ref 1)
def T63 : Nat → XC
 | 0 => T63n0
 | 1 => T63n1
 | 2 => T63n2
 | _ => .skip
theorem t63n0 : T63 0 = T63n0 := rfl
theorem t63n1 : T63 1 = T63n1 := rfl
theorem t63n2 : T63 2 = T63n2 := rfl
def X63 : XC := .seq (.ops [.mk (some 3) none (.k (.box 132 1 (.tmp 0))), .mk (some 4) none (.k (.box 65 9 (.tmp 1))), .mk (some 6) none (.k (.mov (.const (.bool false))))]) (.ref 2)
abbrev K63 : List Nat := [0, 1, 2, 3, 4, 6, 8]
theorem n63 : Try.f63.ntmps = 36 := by kernel_rfl
theorem r63 : resT Try.f63.results.toList = some [6] := by kernel_rfl
theorem x63 : cmpF Try.prog Try.f63 = some (expand T63 4 X63) := by kernel_rfl
def T64n0 : XC := .ops [.mk (some 13) none (.k (.mov (.tmp 0))), .mk (some 14) none (.k (.fld 6 (.tmp 4))), .mk (some 15) none (.k (.load [.int .i64] false (.tmp 14))), .mk (some 16) none (.k (.fld 7 (.tmp 4))), .mk (some 17) none (.k (.load [.int .u64] false (.tmp 16))), .mk none none (.k (.mupd (.int .i64) (.tmp 13) (.tmp 15) (.tmp 17)))]
def T64n1 : XC := .seq (.seq (.ops [.mk (some 10) none (.k (.fld 0 (.tmp 4))), .mk (some 11) none (.k (.load [.int .i64] false (.tmp 10))), .mk (some 12) none (.k (.cmp .eql .i64 (.tmp 11) (.const (.int .i64 8))))]) (.cond (.tmp 12) (.ref 0) .skip)) .ret
def T64n2 : XC := .ops [.mk (some 33) none (.k (.mov (.tmp 0))), .mk (some 34) none (.k (.fld 0 (.tmp 7))), .mk (some 35) none (.k (.load [.int .i64] false (.tmp 34))), .mk (some 36) none (.k (.fld 1 (.tmp 7))), .mk (some 37) none (.k (.load [.int .u64] false (.tmp 36))), .mk none none (.k (.mupd (.int .i64) (.tmp 33) (.tmp 35) (.tmp 37)))]
def T64n3 : XC := .seq (.blk 1 (.seq (.ops [.mk (some 31) none (.k (.idx 2 (.tmp 27) (.tmp 29))), .mk (some 32) none (.k (.load [.int .i64, .int .u64] true (.tmp 31))), .mk (some 7) none (.k (.alloc 92 [.int .i64 0, .int .u64 0])), .mk none none (.k (.store 2 (.tmp 7) (.tmp 32)))]) (.ref 2))) (.ops [.mk (some 38) none (.k (.arith .add .i64 (.tmp 29) (.const (.int .i64 1)))), .mk (some 29) none (.k (.mov (.tmp 38)))])
def T64n4 : XC := .seq (.cond (.tmp 30) .skip (.exit 0)) (.ref 3)
def T64n5 : XC := .seq (.ops [.mk (some 30) none (.k (.cmp .lss .i64 (.tmp 29) (.tmp 28)))]) (.ref 4)
def T64n6 : XC := .seq (.ops [.mk (some 23) none (.k (.mov (.tmp 2))), .mk (some 24) none (.k (.nilc (.tmp 23))), .mk (some 25) none (.k (.fld 0 (.tmp 24))), .mk (some 26) none (.k (.fld 8 (.tmp 25))), .mk (some 27) none (.k (.load [.slc] false (.tmp 26))), .mk (some 28) none (.k (.lenS (.tmp 27))), .mk (some 29) none (.k (.mov (.const (.int .i64 0))))]) (.blk 0 (.loop (.ref 5)))
def T64n7 : XC := .seq (.ops [.mk (some 18) none (.k (.mov (.tmp 2))), .mk (some 19) none (.k (.nilc (.tmp 18))), .mk (some 20) none (.k (.fld 0 (.tmp 19))), .mk (some 21) none (.k (.fld 9 (.tmp 20))), .mk (some 22) none (.k (.load [.bool] false (.tmp 21)))]) (.cond (.tmp 22) (.ref 6) .skip)
def T64n8 : XC := .seq (.seq (.ops [.mk (some 8) none (.k (.mov (.tmp 2))), .mk (some 9) none (.k (.isnil NK.p false (.tmp 8)))]) (.cond (.tmp 9) (.ref 1) .skip)) (.ref 7)
def T64 : Nat → XC
 | 0 => T64n0
 | 1 => T64n1
 | 2 => T64n2
 | 3 => T64n3
 | 4 => T64n4
 | 5 => T64n5
 | 6 => T64n6
 | 7 => T64n7
 | 8 => T64n8
 | _ => .skip
theorem t64n0 : T64 0 = T64n0 := rfl
theorem t64n1 : T64 1 = T64n1 := rfl
theorem t64n2 : T64 2 = T64n2 := rfl
theorem t64n3 : T64 3 = T64n3 := rfl
theorem t64n4 : T64 4 = T64n4 := rfl
theorem t64n5 : T64 5 = T64n5 := rfl
theorem t64n6 : T64 6 = T64n6 := rfl
theorem t64n7 : T64 7 = T64n7 := rfl
theorem t64n8 : T64 8 = T64n8 := rfl
def X64 : XC := .seq (.ops [.mk (some 4) none (.k (.box 65 9 (.tmp 1)))]) (.ref 8)
abbrev K64 : List Nat := [0, 1, 2, 4, 7, 9, 12, 22, 27, 28, 29, 30]
theorem n64 : Try.f64.ntmps = 39 := by kernel_rfl
theorem r64 : resT Try.f64.results.toList = some [] := by kernel_rfl
theorem x64 : cmpF Try.prog Try.f64 = some (expand T64 10 X64) := by kernel_rfl
def T73n0 : XC := .seq (.ops [.mk (some 17) none (.k (.mov (.tmp 6))), .mk (some 18) none (.k (.isnil NK.p true (.tmp 17))), .mk (some 19) none (.k (.mov (.tmp 18))), .mk (some 20) (some (19, false)) (.k (.load [.int .i64, .int .i64, .int .i64, .int .i64, .int .i64, .int .i64, .int .i64, .int .u64, .int .i64] true (.tmp 5))), .mk (some 21) (some (19, false)) (.call 55 [.tmp 20]), .mk (some 22) none (.k (.pick (.tmp 19) (.const (.bool true)) (.tmp 21))), .mk (some 23) none (.k (.mov (.tmp 22))), .mk (some 24) (some (23, true)) (.k (.mov (.tmp 0))), .mk (some 25) (some (23, true)) (.k (.mov (.tmp 4))), .mk (some 26) (some (23, true)) (.k (.mov (.tmp 6))), .mk (some 27) (some (23, true)) (.callv (.tmp 24) [.tmp 25, .tmp 26]), .mk (some 28) (some (23, true)) (.k (.not (.tmp 27))), .mk (some 29) none (.k (.pick (.tmp 23) (.tmp 28) (.const (.bool false))))]) (.cond (.tmp 29) .ret .skip)
def T73n1 : XC := .seq (.ops [.mk (some 14) none (.k (.load [.map] false (.tmp 2))), .mk (some 15) none (.k (.mov (.tmp 4))), .mk (some 16) none (.k (.lkup (.int .i64) (.pointer none) false (.tmp 14) (.tmp 15))), .mk (some 6) none (.k (.mov (.tmp 16)))]) (.ref 0)
def T73n2 : XC := .seq (.blk 1 (.seq (.ops [.mk (some 11) none (.k (.mov (.tmp 9))), .mk (some 12) none (.k (.idx 9 (.tmp 7) (.tmp 9))), .mk (some 13) none (.k (.load [.int .i64, .int .i64, .int .i64, .int .i64, .int .i64, .int .i64, .int .i64, .int .u64, .int .i64] true (.tmp 12))), .mk (some 5) none (.k (.alloc 65 [.int .i64 0, .int .i64 0, .int .i64 0, .int .i64 0, .int .i64 0, .int .i64 0, .int .i64 0, .int .u64 0, .int .i64 0])), .mk (some 4) none (.k (.mov (.tmp 11))), .mk none none (.k (.store 9 (.tmp 5) (.tmp 13)))]) (.ref 1))) (.ops [.mk (some 30) none (.k (.arith .add .i64 (.tmp 9) (.const (.int .i64 1)))), .mk (some 9) none (.k (.mov (.tmp 30)))])
def T73n3 : XC := .seq (.cond (.tmp 10) .skip (.exit 0)) (.ref 2)
def T73n4 : XC := .seq (.ops [.mk (some 10) none (.k (.cmp .lss .i64 (.tmp 9) (.tmp 8)))]) (.ref 3)
def T73 : Nat → XC
 | 0 => T73n0
 | 1 => T73n1
 | 2 => T73n2
 | 3 => T73n3
 | 4 => T73n4
 | _ => .skip
theorem t73n0 : T73 0 = T73n0 := rfl
theorem t73n1 : T73 1 = T73n1 := rfl
theorem t73n2 : T73 2 = T73n2 := rfl
theorem t73n3 : T73 3 = T73n3 := rfl
theorem t73n4 : T73 4 = T73n4 := rfl
def X73 : XC := .seq (.ops [.mk (some 7) none (.k (.load [.slc] false (.tmp 1))), .mk (some 8) none (.k (.lenS (.tmp 7))), .mk (some 9) none (.k (.mov (.const (.int .i64 0))))]) (.blk 0 (.loop (.ref 4)))
abbrev K73 : List Nat := [0, 1, 2, 4, 5, 6, 7, 8, 9, 10, 29]
theorem n73 : Try.f73.ntmps = 31 := by kernel_rfl
theorem r73 : resT Try.f73.results.toList = some [] := by kernel_rfl
theorem x73 : cmpF Try.prog Try.f73 = some (expand T73 6 X73) := by kernel_rfl
def T74n0 : XC := .seq (.ops [.mk (some 5) none (.k (.mov (.tmp 0))), .mk (some 6) none (.k (.mov (.tmp 1))), .mk (some 7) none (.call 79 [.tmp 5, .tmp 6]), .mk (some 8) none (.k (.cmp .geq .i64 (.tmp 7) (.const (.int .i64 0)))), .mk (some 4) none (.k (.mov (.tmp 8)))]) .ret
def T74 : Nat → XC
 | 0 => T74n0
 | _ => .skip
theorem t74n0 : T74 0 = T74n0 := rfl
def X74 : XC := .seq (.ops [.mk (some 4) none (.k (.mov (.const (.bool false))))]) (.ref 0)
abbrev K74 : List Nat := [0, 1, 4]
theorem n74 : Try.f74.ntmps = 9 := by kernel_rfl
theorem r74 : resT Try.f74.results.toList = some [4] := by kernel_rfl
theorem x74 : cmpF Try.prog Try.f74 = some (expand T74 2 X74) := by kernel_rfl
def T75n0 : XC := .seq (.ops [.mk (some 4) none (.k (.load [.map] false (.tmp 1))), .mk (some 5) none (.k (.fld 0 (.tmp 2))), .mk (some 6) none (.k (.load [.int .i64] false (.tmp 5))), .mk (some 7) none (.k (.lkup (.int .i64) (.int .u64 0) false (.tmp 4) (.tmp 6))), .mk (some 8) none (.k (.fld 1 (.tmp 2))), .mk (some 9) none (.k (.load [.int .u64] false (.tmp 8))), .mk (some 10) none (.k (.cmp .neq .u64 (.tmp 7) (.tmp 9))), .mk (some 3) none (.k (.mov (.tmp 10)))]) .ret
def T75 : Nat → XC
 | 0 => T75n0
 | _ => .skip
theorem t75n0 : T75 0 = T75n0 := rfl
def X75 : XC := .seq (.ops [.mk (some 2) none (.k (.box 92 2 (.tmp 0))), .mk (some 3) none (.k (.mov (.const (.bool false))))]) (.ref 0)
abbrev K75 : List Nat := [0, 1, 2, 3]
theorem n75 : Try.f75.ntmps = 11 := by kernel_rfl
theorem r75 : resT Try.f75.results.toList = some [3] := by kernel_rfl
theorem x75 : cmpF Try.prog Try.f75 = some (expand T75 2 X75) := by kernel_rfl
end Go.Proofs.Ytnedgfkgmdoahaa
