/- Printed by program: the small code of functions, and that it is theirs. -/
import Derived.Test.YtbkpiljencaoeaaSxStill
import Derived.Test.YtbkpiljencaoeaaProg
import Derived.KernelRfl
set_option linter.unusedSimpArgs false
set_option linter.unusedVariables false
set_option linter.unnecessarySimpa false
namespace Go.Proofs.Ytbkpiljencaoeaa
open Go Go.Sx
set_option maxRecDepth 100000
def T23n0 : XC := .seq (.ops [.mk (some 19) none (.k (.mov (.tmp 8))), .mk none none (.k (.store 1 (.tmp 4) (.const (.int .i64 0)))), .mk none none (.k (.store 1 (.tmp 5) (.const (.bool false)))), .mk none none (.k (.store 1 (.tmp 6) (.tmp 19)))]) .ret
def T23n1 : XC := .seq (.ops [.mk (some 10) none (.k (.mov (.tmp 25)))]) (.ops [.mk (some 11) none (.k (.mov (.tmp 26)))])
def T23n2 : XC := .seq (.ops [.mk (some 35) none (.k (.mov (.tmp 10))), .mk none none (.k (.store 1 (.tmp 4) (.tmp 35))), .mk none none (.k (.store 1 (.tmp 5) (.const (.bool false)))), .mk none none (.k (.store 1 (.tmp 6) (.const (.int .i64 0))))]) .ret
def T23n3 : XC := .ops [.mk (some 36) none (.k (.load [.map] false (.tmp 9))), .mk (some 37) none (.k (.load [.slc] false (.tmp 2))), .mk (some 38) none (.k (.mov (.tmp 10))), .mk (some 39) none (.k (.idx 9 (.tmp 37) (.tmp 38))), .mk (some 40) none (.k (.load [.int .i64, .int .i64, .int .i64, .int .i64, .int .i64, .int .i64, .int .i64, .int .u64, .int .i64] true (.tmp 39))), .mk (some 41) none (.k (.mov (.tmp 11))), .mk (some 42) none (.call 43 [.tmp 36, .tmp 40, .tmp 41])]
def T23n4 : XC := .blk 1 (.seq (.seq (.ops [.mk (some 27) none (.k (.load [.map] false (.tmp 9))), .mk (some 28) none (.k (.load [.slc] false (.tmp 2))), .mk (some 29) none (.k (.mov (.tmp 10))), .mk (some 30) none (.k (.idx 9 (.tmp 28) (.tmp 29))), .mk (some 31) none (.k (.load [.int .i64, .int .i64, .int .i64, .int .i64, .int .i64, .int .i64, .int .i64, .int .u64, .int .i64] true (.tmp 30))), .mk (some 32) none (.k (.mov (.tmp 11))), .mk (some 33) none (.call 42 [.tmp 27, .tmp 31, .tmp 32]), .mk (some 34) none (.k (.not (.tmp 33)))]) (.cond (.tmp 34) (.ref 2) .skip)) (.ref 3))
def T23n5 : XC := .blk 0 (.rng (.tmp 24) [25, 26] (.ref 1) (.ref 4))
def T23n6 : XC := .seq (.ops [.mk none none (.k (.store 1 (.tmp 4) (.const (.int .i64 0)))), .mk none none (.k (.store 1 (.tmp 5) (.const (.bool true)))), .mk none none (.k (.store 1 (.tmp 6) (.const (.int .i64 0))))]) .ret
def T23n7 : XC := .seq (.seq (.ops [.mk (some 22) none (.k (.load [.slc] false (.tmp 2))), .mk (some 23) none (.k (.mov (.tmp 7))), .mk (some 24) none (.call 41 [.tmp 22, .tmp 23])]) (.ref 5)) (.ref 6)
def T23n8 : XC := .seq (.ops [.mk (some 20) none (.k (.mov (.tmp 1))), .mk (some 21) none (.call 40 [.tmp 20]), .mk (some 9) none (.k (.alloc 89 [.map none])), .mk none none (.k (.store 1 (.tmp 9) (.tmp 21)))]) (.ref 7)
def T23n9 : XC := .seq (.seq (.ops [.mk (some 17) none (.k (.mov (.tmp 8))), .mk (some 18) none (.k (.cmp .neq .i64 (.tmp 17) (.const (.int .i64 0))))]) (.cond (.tmp 18) (.ref 0) .skip)) (.ref 8)
def T23n10 : XC := .seq (.ops [.mk (some 13) none (.k (.load [.slc] false (.tmp 2))), .mk (some 14) none (.call 39 [.tmp 13]), .mk (some 12) none (.k (.mov (.tmp 14))), .mk (some 15) none (.k (.ext (.tmp 12) 0)), .mk (some 16) none (.k (.ext (.tmp 12) 1)), .mk (some 7) none (.k (.mov (.tmp 15))), .mk (some 8) none (.k (.mov (.tmp 16)))]) (.ref 9)
def T23 : Nat → XC
 | 0 => T23n0
 | 1 => T23n1
 | 2 => T23n2
 | 3 => T23n3
 | 4 => T23n4
 | 5 => T23n5
 | 6 => T23n6
 | 7 => T23n7
 | 8 => T23n8
 | 9 => T23n9
 | 10 => T23n10
 | _ => .skip
theorem t23n0 : T23 0 = T23n0 := rfl
theorem t23n1 : T23 1 = T23n1 := rfl
theorem t23n2 : T23 2 = T23n2 := rfl
theorem t23n3 : T23 3 = T23n3 := rfl
theorem t23n4 : T23 4 = T23n4 := rfl
theorem t23n5 : T23 5 = T23n5 := rfl
theorem t23n6 : T23 6 = T23n6 := rfl
theorem t23n7 : T23 7 = T23n7 := rfl
theorem t23n8 : T23 8 = T23n8 := rfl
theorem t23n9 : T23 9 = T23n9 := rfl
theorem t23n10 : T23 10 = T23n10 := rfl
def X23 : XC := .seq (.ops [.mk (some 2) none (.k (.box 39 1 (.tmp 0))), .mk (some 4) none (.k (.alloc 3 [.int .i64 0])), .mk (some 5) none (.k (.alloc 4 [.bool false])), .mk (some 6) none (.k (.alloc 25 [.int .i64 0]))]) (.ref 10)
abbrev K23 : List Nat := [0, 1, 2, 4, 5, 6, 7, 8, 9, 10, 11, 18, 24, 25, 26, 34]
theorem n23 : Try.f23.ntmps = 43 := by kernel_rfl
theorem r23 : rvOf Try.prog Try.f23.results.toList = some [RV.cell 4 1 false, RV.cell 5 1 false, RV.cell 6 1 false] := by kernel_rfl
theorem x23 : cmpF Try.prog Try.f23 = some (expand T23 12 X23) := by kernel_rfl
def T40n0 : XC := .ops [.mk (some 14) none (.k (.mov (.tmp 3))), .mk (some 15) none (.k (.mov (.tmp 4))), .mk (some 16) none (.k (.mov (.tmp 5))), .mk none none (.k (.mupd (.int .i64) (.tmp 14) (.tmp 15) (.tmp 16)))]
def T40n1 : XC := .seq (.blk 1 (.seq (.ops [.mk (some 11) none (.k (.mov (.tmp 9))), .mk (some 12) none (.k (.idx 1 (.tmp 7) (.tmp 9))), .mk (some 13) none (.k (.load [.int .u64] false (.tmp 12))), .mk (some 4) none (.k (.mov (.tmp 11))), .mk (some 5) none (.k (.mov (.tmp 13)))]) (.ref 0))) (.ops [.mk (some 17) none (.k (.arith .add .i64 (.tmp 9) (.const (.int .i64 1)))), .mk (some 9) none (.k (.mov (.tmp 17)))])
def T40n2 : XC := .seq (.cond (.tmp 10) .skip (.exit 0)) (.ref 1)
def T40n3 : XC := .seq (.ops [.mk (some 10) none (.k (.cmp .lss .i64 (.tmp 9) (.tmp 8)))]) (.ref 2)
def T40n4 : XC := .seq (.ops [.mk (some 18) none (.k (.mov (.tmp 3))), .mk (some 2) none (.k (.mov (.tmp 18)))]) .ret
def T40n5 : XC := .seq (.seq (.ops [.mk (some 7) none (.k (.mov (.tmp 0))), .mk (some 8) none (.k (.lenS (.tmp 7))), .mk (some 9) none (.k (.mov (.const (.int .i64 0))))]) (.blk 0 (.loop (.ref 3)))) (.ref 4)
def T40n6 : XC := .seq (.ops [.mk (some 6) none (.k .mkmap), .mk (some 3) none (.k (.mov (.tmp 6)))]) (.ref 5)
def T40 : Nat → XC
 | 0 => T40n0
 | 1 => T40n1
 | 2 => T40n2
 | 3 => T40n3
 | 4 => T40n4
 | 5 => T40n5
 | 6 => T40n6
 | _ => .skip
theorem t40n0 : T40 0 = T40n0 := rfl
theorem t40n1 : T40 1 = T40n1 := rfl
theorem t40n2 : T40 2 = T40n2 := rfl
theorem t40n3 : T40 3 = T40n3 := rfl
theorem t40n4 : T40 4 = T40n4 := rfl
theorem t40n5 : T40 5 = T40n5 := rfl
theorem t40n6 : T40 6 = T40n6 := rfl
def X40 : XC := .seq (.ops [.mk (some 2) none (.k (.mov (.const (.map none))))]) (.ref 6)
abbrev K40 : List Nat := [0, 2, 3, 4, 5, 7, 8, 9, 10]
theorem n40 : Try.f40.ntmps = 19 := by kernel_rfl
theorem r40 : resT Try.f40.results.toList = some [2] := by kernel_rfl
theorem x40 : cmpF Try.prog Try.f40 = some (expand T40 8 X40) := by kernel_rfl
def T41n0 : XC := .ops [.mk (some 21) none (.k (.load [.map] false (.tmp 5))), .mk (some 22) none (.k (.mov (.tmp 7))), .mk (some 23) none (.k (.nilc (.tmp 22))), .mk (some 24) none (.k (.fld 0 (.tmp 23))), .mk (some 25) none (.k (.fld 5 (.tmp 24))), .mk (some 26) none (.k (.load [.int .i64] false (.tmp 25))), .mk (some 27) none (.k (.mov (.tmp 7))), .mk none none (.k (.mupd (.int .i64) (.tmp 21) (.tmp 26) (.tmp 27)))]
def T41n1 : XC := .seq (.ops [.mk (some 15) none (.k (.mov (.tmp 7))), .mk (some 16) none (.k (.nilc (.tmp 15))), .mk (some 17) none (.k (.fld 0 (.tmp 16))), .mk (some 18) none (.k (.fld 5 (.tmp 17))), .mk (some 19) none (.k (.load [.int .i64] false (.tmp 18))), .mk (some 20) none (.k (.cmp .geq .i64 (.tmp 19) (.const (.int .i64 0))))]) (.cond (.tmp 20) (.ref 0) .skip)
def T41n2 : XC := .seq (.blk 1 (.seq (.ops [.mk (some 13) none (.k (.idx 1 (.tmp 9) (.tmp 11))), .mk (some 14) none (.k (.load [.ptr] false (.tmp 13))), .mk (some 7) none (.k (.mov (.tmp 14)))]) (.ref 1))) (.ops [.mk (some 28) none (.k (.arith .add .i64 (.tmp 11) (.const (.int .i64 1)))), .mk (some 11) none (.k (.mov (.tmp 28)))])
def T41n3 : XC := .seq (.cond (.tmp 12) .skip (.exit 0)) (.ref 2)
def T41n4 : XC := .seq (.ops [.mk (some 12) none (.k (.cmp .lss .i64 (.tmp 11) (.tmp 10)))]) (.ref 3)
def T41n5 : XC := .seq (.ops [.mk (some 29) none (.k (.mkfn (.func 64) [] [.tmp 2, .tmp 5])), .mk (some 4) none (.k (.mov (.tmp 29)))]) .ret
def T41n6 : XC := .seq (.seq (.ops [.mk (some 9) none (.k (.mov (.tmp 1))), .mk (some 10) none (.k (.lenS (.tmp 9))), .mk (some 11) none (.k (.mov (.const (.int .i64 0))))]) (.blk 0 (.loop (.ref 4)))) (.ref 5)
def T41n7 : XC := .seq (.ops [.mk (some 8) none (.k .mkmap), .mk (some 5) none (.k (.alloc 111 [.map none])), .mk none none (.k (.store 1 (.tmp 5) (.tmp 8)))]) (.ref 6)
def T41 : Nat → XC
 | 0 => T41n0
 | 1 => T41n1
 | 2 => T41n2
 | 3 => T41n3
 | 4 => T41n4
 | 5 => T41n5
 | 6 => T41n6
 | 7 => T41n7
 | _ => .skip
theorem t41n0 : T41 0 = T41n0 := rfl
theorem t41n1 : T41 1 = T41n1 := rfl
theorem t41n2 : T41 2 = T41n2 := rfl
theorem t41n3 : T41 3 = T41n3 := rfl
theorem t41n4 : T41 4 = T41n4 := rfl
theorem t41n5 : T41 5 = T41n5 := rfl
theorem t41n6 : T41 6 = T41n6 := rfl
theorem t41n7 : T41 7 = T41n7 := rfl
def X41 : XC := .seq (.ops [.mk (some 2) none (.k (.box 39 1 (.tmp 0))), .mk (some 4) none (.k (.mov (.const .nilFunc)))]) (.ref 7)
abbrev K41 : List Nat := [0, 1, 2, 4, 5, 7, 9, 10, 11, 12, 20]
theorem n41 : Try.f41.ntmps = 30 := by kernel_rfl
theorem r41 : resT Try.f41.results.toList = some [4] := by kernel_rfl
theorem x41 : cmpF Try.prog Try.f41 = some (expand T41 9 X41) := by kernel_rfl
def T42n0 : XC := .seq (.ops [.mk (some 9) none (.k (.fld 0 (.tmp 4))), .mk (some 10) none (.k (.load [.int .i64] false (.tmp 9))), .mk (some 11) none (.k (.cmp .neq .i64 (.tmp 10) (.const (.int .i64 7)))), .mk (some 12) none (.k (.mov (.tmp 11))), .mk (some 13) (some (12, false)) (.k (.load [.map] false (.tmp 3))), .mk (some 14) (some (12, false)) (.k (.fld 6 (.tmp 4))), .mk (some 15) (some (12, false)) (.k (.load [.int .i64] false (.tmp 14))), .mk (some 16) (some (12, false)) (.k (.lkup (.int .i64) (.int .u64 0) false (.tmp 13) (.tmp 15))), .mk (some 17) (some (12, false)) (.k (.fld 7 (.tmp 4))), .mk (some 18) (some (12, false)) (.k (.load [.int .u64] false (.tmp 17))), .mk (some 19) (some (12, false)) (.k (.cmp .eql .u64 (.tmp 16) (.tmp 18))), .mk (some 20) none (.k (.pick (.tmp 12) (.const (.bool true)) (.tmp 19))), .mk (some 6) none (.k (.mov (.tmp 20)))]) .ret
def T42n1 : XC := .seq (.ops [.mk (some 21) none (.k (.mov (.tmp 2))), .mk (some 22) none (.k (.nilc (.tmp 21))), .mk (some 23) none (.k (.fld 11 (.tmp 22))), .mk (some 24) none (.k (.load [.bool] false (.tmp 23))), .mk (some 25) none (.k (.not (.tmp 24))), .mk (some 26) none (.k (.mov (.tmp 25))), .mk (some 27) (some (26, true)) (.k (.mov (.tmp 2))), .mk (some 28) (some (26, true)) (.k (.nilc (.tmp 27))), .mk (some 29) (some (26, true)) (.k (.fld 0 (.tmp 28))), .mk (some 30) (some (26, true)) (.k (.fld 7 (.tmp 29))), .mk (some 31) (some (26, true)) (.k (.load [.slc] false (.tmp 30))), .mk (some 32) (some (26, true)) (.k (.mkfn (.func 65) [] [.tmp 3])), .mk (some 33) (some (26, true)) (.call 53 [.tmp 31, .tmp 32]), .mk (some 34) (some (26, true)) (.k (.not (.tmp 33))), .mk (some 35) none (.k (.pick (.tmp 26) (.tmp 34) (.const (.bool false)))), .mk (some 6) none (.k (.mov (.tmp 35)))]) .ret
def T42n2 : XC := .seq (.seq (.ops [.mk (some 7) none (.k (.mov (.tmp 2))), .mk (some 8) none (.k (.isnil NK.p false (.tmp 7)))]) (.cond (.tmp 8) (.ref 0) .skip)) (.ref 1)
def T42 : Nat → XC
 | 0 => T42n0
 | 1 => T42n1
 | 2 => T42n2
 | _ => .skip
theorem t42n0 : T42 0 = T42n0 := rfl
theorem t42n1 : T42 1 = T42n1 := rfl
theorem t42n2 : T42 2 = T42n2 := rfl
def X42 : XC := .seq (.ops [.mk (some 3) none (.k (.box 89 1 (.tmp 0))), .mk (some 4) none (.k (.box 53 9 (.tmp 1))), .mk (some 6) none (.k (.mov (.const (.bool false))))]) (.ref 2)
abbrev K42 : List Nat := [0, 1, 2, 3, 4, 6, 8]
theorem n42 : Try.f42.ntmps = 36 := by kernel_rfl
theorem r42 : resT Try.f42.results.toList = some [6] := by kernel_rfl
theorem x42 : cmpF Try.prog Try.f42 = some (expand T42 4 X42) := by kernel_rfl
def T43n0 : XC := .ops [.mk (some 13) none (.k (.mov (.tmp 0))), .mk (some 14) none (.k (.fld 6 (.tmp 4))), .mk (some 15) none (.k (.load [.int .i64] false (.tmp 14))), .mk (some 16) none (.k (.fld 7 (.tmp 4))), .mk (some 17) none (.k (.load [.int .u64] false (.tmp 16))), .mk none none (.k (.mupd (.int .i64) (.tmp 13) (.tmp 15) (.tmp 17)))]
def T43n1 : XC := .seq (.seq (.ops [.mk (some 10) none (.k (.fld 0 (.tmp 4))), .mk (some 11) none (.k (.load [.int .i64] false (.tmp 10))), .mk (some 12) none (.k (.cmp .eql .i64 (.tmp 11) (.const (.int .i64 8))))]) (.cond (.tmp 12) (.ref 0) .skip)) .ret
def T43n2 : XC := .ops [.mk (some 33) none (.k (.mov (.tmp 0))), .mk (some 34) none (.k (.fld 0 (.tmp 7))), .mk (some 35) none (.k (.load [.int .i64] false (.tmp 34))), .mk (some 36) none (.k (.fld 1 (.tmp 7))), .mk (some 37) none (.k (.load [.int .u64] false (.tmp 36))), .mk none none (.k (.mupd (.int .i64) (.tmp 33) (.tmp 35) (.tmp 37)))]
def T43n3 : XC := .seq (.blk 1 (.seq (.ops [.mk (some 31) none (.k (.idx 2 (.tmp 27) (.tmp 29))), .mk (some 32) none (.k (.load [.int .i64, .int .u64] true (.tmp 31))), .mk (some 7) none (.k (.alloc 85 [.int .i64 0, .int .u64 0])), .mk none none (.k (.store 2 (.tmp 7) (.tmp 32)))]) (.ref 2))) (.ops [.mk (some 38) none (.k (.arith .add .i64 (.tmp 29) (.const (.int .i64 1)))), .mk (some 29) none (.k (.mov (.tmp 38)))])
def T43n4 : XC := .seq (.cond (.tmp 30) .skip (.exit 0)) (.ref 3)
def T43n5 : XC := .seq (.ops [.mk (some 30) none (.k (.cmp .lss .i64 (.tmp 29) (.tmp 28)))]) (.ref 4)
def T43n6 : XC := .seq (.ops [.mk (some 23) none (.k (.mov (.tmp 2))), .mk (some 24) none (.k (.nilc (.tmp 23))), .mk (some 25) none (.k (.fld 0 (.tmp 24))), .mk (some 26) none (.k (.fld 8 (.tmp 25))), .mk (some 27) none (.k (.load [.slc] false (.tmp 26))), .mk (some 28) none (.k (.lenS (.tmp 27))), .mk (some 29) none (.k (.mov (.const (.int .i64 0))))]) (.blk 0 (.loop (.ref 5)))
def T43n7 : XC := .seq (.ops [.mk (some 18) none (.k (.mov (.tmp 2))), .mk (some 19) none (.k (.nilc (.tmp 18))), .mk (some 20) none (.k (.fld 0 (.tmp 19))), .mk (some 21) none (.k (.fld 9 (.tmp 20))), .mk (some 22) none (.k (.load [.bool] false (.tmp 21)))]) (.cond (.tmp 22) (.ref 6) .skip)
def T43n8 : XC := .seq (.seq (.ops [.mk (some 8) none (.k (.mov (.tmp 2))), .mk (some 9) none (.k (.isnil NK.p false (.tmp 8)))]) (.cond (.tmp 9) (.ref 1) .skip)) (.ref 7)
def T43 : Nat → XC
 | 0 => T43n0
 | 1 => T43n1
 | 2 => T43n2
 | 3 => T43n3
 | 4 => T43n4
 | 5 => T43n5
 | 6 => T43n6
 | 7 => T43n7
 | 8 => T43n8
 | _ => .skip
theorem t43n0 : T43 0 = T43n0 := rfl
theorem t43n1 : T43 1 = T43n1 := rfl
theorem t43n2 : T43 2 = T43n2 := rfl
theorem t43n3 : T43 3 = T43n3 := rfl
theorem t43n4 : T43 4 = T43n4 := rfl
theorem t43n5 : T43 5 = T43n5 := rfl
theorem t43n6 : T43 6 = T43n6 := rfl
theorem t43n7 : T43 7 = T43n7 := rfl
theorem t43n8 : T43 8 = T43n8 := rfl
def X43 : XC := .seq (.ops [.mk (some 4) none (.k (.box 53 9 (.tmp 1)))]) (.ref 8)
abbrev K43 : List Nat := [0, 1, 2, 4, 7, 9, 12, 22, 27, 28, 29, 30]
theorem n43 : Try.f43.ntmps = 39 := by kernel_rfl
theorem r43 : resT Try.f43.results.toList = some [] := by kernel_rfl
theorem x43 : cmpF Try.prog Try.f43 = some (expand T43 10 X43) := by kernel_rfl
def T64n0 : XC := .seq (.ops [.mk (some 17) none (.k (.mov (.tmp 6))), .mk (some 18) none (.k (.isnil NK.p true (.tmp 17))), .mk (some 19) none (.k (.mov (.tmp 18))), .mk (some 20) (some (19, false)) (.k (.load [.int .i64, .int .i64, .int .i64, .int .i64, .int .i64, .int .i64, .int .i64, .int .u64, .int .i64] true (.tmp 5))), .mk (some 21) (some (19, false)) (.call 62 [.tmp 20]), .mk (some 22) none (.k (.pick (.tmp 19) (.const (.bool true)) (.tmp 21))), .mk (some 23) none (.k (.mov (.tmp 22))), .mk (some 24) (some (23, true)) (.k (.mov (.tmp 0))), .mk (some 25) (some (23, true)) (.k (.mov (.tmp 4))), .mk (some 26) (some (23, true)) (.k (.mov (.tmp 6))), .mk (some 27) (some (23, true)) (.callv (.tmp 24) [.tmp 25, .tmp 26]), .mk (some 28) (some (23, true)) (.k (.not (.tmp 27))), .mk (some 29) none (.k (.pick (.tmp 23) (.tmp 28) (.const (.bool false))))]) (.cond (.tmp 29) .ret .skip)
def T64n1 : XC := .seq (.ops [.mk (some 14) none (.k (.load [.map] false (.tmp 2))), .mk (some 15) none (.k (.mov (.tmp 4))), .mk (some 16) none (.k (.lkup (.int .i64) (.pointer none) false (.tmp 14) (.tmp 15))), .mk (some 6) none (.k (.mov (.tmp 16)))]) (.ref 0)
def T64n2 : XC := .seq (.blk 1 (.seq (.ops [.mk (some 11) none (.k (.mov (.tmp 9))), .mk (some 12) none (.k (.idx 9 (.tmp 7) (.tmp 9))), .mk (some 13) none (.k (.load [.int .i64, .int .i64, .int .i64, .int .i64, .int .i64, .int .i64, .int .i64, .int .u64, .int .i64] true (.tmp 12))), .mk (some 5) none (.k (.alloc 53 [.int .i64 0, .int .i64 0, .int .i64 0, .int .i64 0, .int .i64 0, .int .i64 0, .int .i64 0, .int .u64 0, .int .i64 0])), .mk (some 4) none (.k (.mov (.tmp 11))), .mk none none (.k (.store 9 (.tmp 5) (.tmp 13)))]) (.ref 1))) (.ops [.mk (some 30) none (.k (.arith .add .i64 (.tmp 9) (.const (.int .i64 1)))), .mk (some 9) none (.k (.mov (.tmp 30)))])
def T64n3 : XC := .seq (.cond (.tmp 10) .skip (.exit 0)) (.ref 2)
def T64n4 : XC := .seq (.ops [.mk (some 10) none (.k (.cmp .lss .i64 (.tmp 9) (.tmp 8)))]) (.ref 3)
def T64 : Nat → XC
 | 0 => T64n0
 | 1 => T64n1
 | 2 => T64n2
 | 3 => T64n3
 | 4 => T64n4
 | _ => .skip
theorem t64n0 : T64 0 = T64n0 := rfl
theorem t64n1 : T64 1 = T64n1 := rfl
theorem t64n2 : T64 2 = T64n2 := rfl
theorem t64n3 : T64 3 = T64n3 := rfl
theorem t64n4 : T64 4 = T64n4 := rfl
def X64 : XC := .seq (.ops [.mk (some 7) none (.k (.load [.slc] false (.tmp 1))), .mk (some 8) none (.k (.lenS (.tmp 7))), .mk (some 9) none (.k (.mov (.const (.int .i64 0))))]) (.blk 0 (.loop (.ref 4)))
abbrev K64 : List Nat := [0, 1, 2, 4, 5, 6, 7, 8, 9, 10, 29]
theorem n64 : Try.f64.ntmps = 31 := by kernel_rfl
theorem r64 : resT Try.f64.results.toList = some [] := by kernel_rfl
theorem x64 : cmpF Try.prog Try.f64 = some (expand T64 6 X64) := by kernel_rfl
def T65n0 : XC := .seq (.ops [.mk (some 4) none (.k (.load [.map] false (.tmp 1))), .mk (some 5) none (.k (.fld 0 (.tmp 2))), .mk (some 6) none (.k (.load [.int .i64] false (.tmp 5))), .mk (some 7) none (.k (.lkup (.int .i64) (.int .u64 0) false (.tmp 4) (.tmp 6))), .mk (some 8) none (.k (.fld 1 (.tmp 2))), .mk (some 9) none (.k (.load [.int .u64] false (.tmp 8))), .mk (some 10) none (.k (.cmp .neq .u64 (.tmp 7) (.tmp 9))), .mk (some 3) none (.k (.mov (.tmp 10)))]) .ret
def T65 : Nat → XC
 | 0 => T65n0
 | _ => .skip
theorem t65n0 : T65 0 = T65n0 := rfl
def X65 : XC := .seq (.ops [.mk (some 2) none (.k (.box 85 2 (.tmp 0))), .mk (some 3) none (.k (.mov (.const (.bool false))))]) (.ref 0)
abbrev K65 : List Nat := [0, 1, 2, 3]
theorem n65 : Try.f65.ntmps = 11 := by kernel_rfl
theorem r65 : resT Try.f65.results.toList = some [3] := by kernel_rfl
theorem x65 : cmpF Try.prog Try.f65 = some (expand T65 2 X65) := by kernel_rfl
end Go.Proofs.Ytbkpiljencaoeaa
