/- Printed by program: the small code of functions, and that it is theirs. -/
import Derived.Test.YtbkpiljencaoeaaSxStill
import Derived.Test.YtbkpiljencaoeaaProg
import Derived.KernelRfl
set_option linter.unusedSimpArgs false
set_option linter.unusedVariables false
set_option linter.unnecessarySimpa false
namespace Go.Proofs.Ytbkpiljencaoeaa
open Go Go.Sx
set_option maxRecDepth 100000
def T31n0 : XC := .seq (.ops [.mk (some 13) none (.k (.mov (.tmp 5))), .mk (some 2) none (.k (.mov (.const (.slice none 0 0)))), .mk (some 3) none (.k (.mov (.tmp 13)))]) .ret
def T31n1 : XC := .seq (.ops [.mk (some 2) none (.k (.mov (.const (.slice none 0 0)))), .mk (some 3) none (.k (.mov (.const (.int .i64 120))))]) .ret
def T31n2 : XC := .seq (.ops [.mk (some 19) none (.k (.mov (.tmp 4))), .mk (some 2) none (.k (.mov (.tmp 19))), .mk (some 3) none (.k (.mov (.const (.int .i64 0))))]) .ret
def T31n3 : XC := .seq (.seq (.ops [.mk (some 16) none (.k (.mov (.tmp 4))), .mk (some 17) none (.k (.lenS (.tmp 16))), .mk (some 18) none (.k (.cmp .gtr .i64 (.tmp 17) (.const (.int .i64 500))))]) (.cond (.tmp 18) (.ref 1) .skip)) (.ref 2)
def T31n4 : XC := .seq (.ops [.mk (some 14) none (.k (.mov (.tmp 4))), .mk (some 15) none (.call 50 [.tmp 14, .func 51]), .mk (some 4) none (.k (.mov (.tmp 15)))]) (.ref 3)
def T31n5 : XC := .seq (.seq (.ops [.mk (some 11) none (.k (.mov (.tmp 5))), .mk (some 12) none (.k (.cmp .neq .i64 (.tmp 11) (.const (.int .i64 0))))]) (.cond (.tmp 12) (.ref 0) .skip)) (.ref 4)
def T31n6 : XC := .seq (.ops [.mk (some 7) none (.k (.mov (.tmp 0))), .mk (some 8) none (.call 49 [.tmp 7]), .mk (some 6) none (.k (.mov (.tmp 8))), .mk (some 9) none (.k (.ext (.tmp 6) 0)), .mk (some 10) none (.k (.ext (.tmp 6) 1)), .mk (some 4) none (.k (.mov (.tmp 9))), .mk (some 5) none (.k (.mov (.tmp 10)))]) (.ref 5)
def T31 : Nat → XC
 | 0 => T31n0
 | 1 => T31n1
 | 2 => T31n2
 | 3 => T31n3
 | 4 => T31n4
 | 5 => T31n5
 | 6 => T31n6
 | _ => .skip
theorem t31n0 : T31 0 = T31n0 := rfl
theorem t31n1 : T31 1 = T31n1 := rfl
theorem t31n2 : T31 2 = T31n2 := rfl
theorem t31n3 : T31 3 = T31n3 := rfl
theorem t31n4 : T31 4 = T31n4 := rfl
theorem t31n5 : T31 5 = T31n5 := rfl
theorem t31n6 : T31 6 = T31n6 := rfl
def X31 : XC := .seq (.ops [.mk (some 2) none (.k (.mov (.const (.slice none 0 0)))), .mk (some 3) none (.k (.mov (.const (.int .i64 0))))]) (.ref 6)
abbrev K31 : List Nat := [0, 2, 3, 4, 5, 12, 18]
theorem n31 : Try.f31.ntmps = 20 := by kernel_rfl
theorem r31 : resT Try.f31.results.toList = some [2, 3] := by kernel_rfl
theorem x31 : cmpF Try.prog Try.f31 = some (expand T31 8 X31) := by kernel_rfl
def T50n0 : XC := .seq (.ops [.mk (some 13) none (.k (.mov (.tmp 0))), .mk (some 4) none (.k (.mov (.tmp 13)))]) .ret
def T50n1 : XC := .ops [.mk (some 34) none (.k (.mov (.tmp 5))), .mk (some 35) none (.k (.arith .add .i64 (.tmp 34) (.const (.int .i64 1)))), .mk (some 5) none (.k (.mov (.tmp 35)))]
def T50n2 : XC := .seq (.ops [.mk (some 30) none (.k (.mov (.tmp 0))), .mk (some 31) none (.k (.mov (.tmp 5))), .mk (some 32) none (.k (.load [.int .i64, .int .i64, .int .i64, .int .i64, .int .i64, .int .i64, .int .i64, .slc, .slc, .bool, .int .i64] true (.tmp 7))), .mk (some 33) none (.k (.idx 11 (.tmp 30) (.tmp 31))), .mk none none (.k (.store 11 (.tmp 33) (.tmp 32)))]) (.ref 1)
def T50n3 : XC := .seq (.ops [.mk (some 26) none (.k (.mov (.tmp 1))), .mk (some 27) none (.k (.load [.int .i64, .int .i64, .int .i64, .int .i64, .int .i64, .int .i64, .int .i64, .slc, .slc, .bool, .int .i64] true (.tmp 7))), .mk (some 28) none (.callv (.tmp 26) [.tmp 27]), .mk (some 29) none (.k (.not (.tmp 28)))]) (.cond (.tmp 29) (.ref 2) .skip)
def T50n4 : XC := .ops [.mk (some 20) none (.k (.mov (.tmp 6))), .mk (some 21) none (.k (.arith .add .i64 (.tmp 20) (.const (.int .i64 1)))), .mk (some 6) none (.k (.mov (.tmp 21)))]
def T50n5 : XC := .seq (.blk 1 (.seq (.ops [.mk (some 22) none (.k (.mov (.tmp 0))), .mk (some 23) none (.k (.mov (.tmp 6))), .mk (some 24) none (.k (.idx 11 (.tmp 22) (.tmp 23))), .mk (some 25) none (.k (.load [.int .i64, .int .i64, .int .i64, .int .i64, .int .i64, .int .i64, .int .i64, .slc, .slc, .bool, .int .i64] true (.tmp 24))), .mk (some 7) none (.k (.alloc 75 [.int .i64 0, .int .i64 0, .int .i64 0, .int .i64 0, .int .i64 0, .int .i64 0, .int .i64 0, .slice none 0 0, .slice none 0 0, .bool false, .int .i64 0])), .mk none none (.k (.store 11 (.tmp 7) (.tmp 25)))]) (.ref 3))) (.ref 4)
def T50n6 : XC := .seq (.seq (.ops [.mk (some 16) none (.k (.mov (.tmp 6))), .mk (some 17) none (.k (.mov (.tmp 0))), .mk (some 18) none (.k (.lenS (.tmp 17))), .mk (some 19) none (.k (.cmp .lss .i64 (.tmp 16) (.tmp 18)))]) (.cond (.tmp 19) .skip (.exit 0))) (.ref 5)
def T50n7 : XC := .seq (.ops [.mk (some 39) none (.k (.mov (.tmp 0))), .mk (some 40) none (.k (.mov (.tmp 5))), .mk (some 41) none (.k (.sub 11 (.tmp 39) none (some (.tmp 40)))), .mk (some 4) none (.k (.mov (.tmp 41)))]) .ret
def T50n8 : XC := .seq (.ops [.mk (some 36) none (.k (.mov (.tmp 0))), .mk (some 37) none (.k (.mov (.tmp 5))), .mk (some 38) none (.k (.sub 11 (.tmp 36) (some (.tmp 37)) none)), .mk none none (.k (.clr 11 [.int .i64 0, .int .i64 0, .int .i64 0, .int .i64 0, .int .i64 0, .int .i64 0, .int .i64 0, .slice none 0 0, .slice none 0 0, .bool false, .int .i64 0] (.tmp 38)))]) (.ref 7)
def T50n9 : XC := .seq (.seq (.ops [.mk (some 14) none (.k (.mov (.tmp 5))), .mk (some 15) none (.k (.arith .add .i64 (.tmp 14) (.const (.int .i64 1)))), .mk (some 6) none (.k (.mov (.tmp 15)))]) (.blk 0 (.loop (.ref 6)))) (.ref 8)
def T50n10 : XC := .seq (.seq (.ops [.mk (some 11) none (.k (.mov (.tmp 5))), .mk (some 12) none (.k (.cmp .eql .i64 (.tmp 11) (.const (.int .i64 (-1)))))]) (.cond (.tmp 12) (.ref 0) .skip)) (.ref 9)
def T50n11 : XC := .seq (.ops [.mk (some 8) none (.k (.mov (.tmp 0))), .mk (some 9) none (.k (.mov (.tmp 1))), .mk (some 10) none (.call 68 [.tmp 8, .tmp 9]), .mk (some 5) none (.k (.mov (.tmp 10)))]) (.ref 10)
def T50 : Nat → XC
 | 0 => T50n0
 | 1 => T50n1
 | 2 => T50n2
 | 3 => T50n3
 | 4 => T50n4
 | 5 => T50n5
 | 6 => T50n6
 | 7 => T50n7
 | 8 => T50n8
 | 9 => T50n9
 | 10 => T50n10
 | 11 => T50n11
 | _ => .skip
theorem t50n0 : T50 0 = T50n0 := rfl
theorem t50n1 : T50 1 = T50n1 := rfl
theorem t50n2 : T50 2 = T50n2 := rfl
theorem t50n3 : T50 3 = T50n3 := rfl
theorem t50n4 : T50 4 = T50n4 := rfl
theorem t50n5 : T50 5 = T50n5 := rfl
theorem t50n6 : T50 6 = T50n6 := rfl
theorem t50n7 : T50 7 = T50n7 := rfl
theorem t50n8 : T50 8 = T50n8 := rfl
theorem t50n9 : T50 9 = T50n9 := rfl
theorem t50n10 : T50 10 = T50n10 := rfl
theorem t50n11 : T50 11 = T50n11 := rfl
def X50 : XC := .seq (.ops [.mk (some 4) none (.k (.mov (.const (.slice none 0 0))))]) (.ref 11)
abbrev K50 : List Nat := [0, 1, 4, 5, 6, 7, 12, 19, 29]
theorem n50 : Try.f50.ntmps = 42 := by kernel_rfl
theorem r50 : resT Try.f50.results.toList = some [4] := by kernel_rfl
theorem x50 : cmpF Try.prog Try.f50 = some (expand T50 13 X50) := by kernel_rfl
def T51n0 : XC := .seq (.ops [.mk (some 3) none (.k (.fld 9 (.tmp 1))), .mk (some 4) none (.k (.load [.bool] false (.tmp 3))), .mk (some 5) none (.k (.not (.tmp 4))), .mk (some 6) none (.k (.mov (.tmp 5))), .mk (some 7) (some (6, false)) (.k (.fld 5 (.tmp 1))), .mk (some 8) (some (6, false)) (.k (.load [.int .i64] false (.tmp 7))), .mk (some 9) (some (6, false)) (.k (.cmp .lss .i64 (.tmp 8) (.const (.int .i64 0)))), .mk (some 10) none (.k (.pick (.tmp 6) (.const (.bool true)) (.tmp 9))), .mk (some 2) none (.k (.mov (.tmp 10)))]) .ret
def T51 : Nat → XC
 | 0 => T51n0
 | _ => .skip
theorem t51n0 : T51 0 = T51n0 := rfl
def X51 : XC := .seq (.ops [.mk (some 1) none (.k (.box 75 11 (.tmp 0))), .mk (some 2) none (.k (.mov (.const (.bool false))))]) (.ref 0)
abbrev K51 : List Nat := [0, 1, 2]
theorem n51 : Try.f51.ntmps = 11 := by kernel_rfl
theorem r51 : resT Try.f51.results.toList = some [2] := by kernel_rfl
theorem x51 : cmpF Try.prog Try.f51 = some (expand T51 2 X51) := by kernel_rfl
def T68n0 : XC := .seq (.ops [.mk (some 17) none (.k (.mov (.tmp 5))), .mk (some 4) none (.k (.mov (.tmp 17)))]) .ret
def T68n1 : XC := .seq (.ops [.mk (some 11) none (.k (.mov (.tmp 1))), .mk (some 12) none (.k (.mov (.tmp 0))), .mk (some 13) none (.k (.mov (.tmp 5))), .mk (some 14) none (.k (.idx 11 (.tmp 12) (.tmp 13))), .mk (some 15) none (.k (.load [.int .i64, .int .i64, .int .i64, .int .i64, .int .i64, .int .i64, .int .i64, .slc, .slc, .bool, .int .i64] true (.tmp 14))), .mk (some 16) none (.callv (.tmp 11) [.tmp 15])]) (.cond (.tmp 16) (.ref 0) .skip)
def T68n2 : XC := .seq (.blk 1 (.seq (.ops [.mk (some 10) none (.k (.mov (.tmp 8))), .mk (some 5) none (.k (.mov (.tmp 10)))]) (.ref 1))) (.ops [.mk (some 18) none (.k (.arith .add .i64 (.tmp 8) (.const (.int .i64 1)))), .mk (some 8) none (.k (.mov (.tmp 18)))])
def T68n3 : XC := .seq (.cond (.tmp 9) .skip (.exit 0)) (.ref 2)
def T68n4 : XC := .seq (.ops [.mk (some 9) none (.k (.cmp .lss .i64 (.tmp 8) (.tmp 7)))]) (.ref 3)
def T68n5 : XC := .seq (.ops [.mk (some 4) none (.k (.mov (.const (.int .i64 (-1)))))]) .ret
def T68n6 : XC := .seq (.seq (.ops [.mk (some 6) none (.k (.mov (.tmp 0))), .mk (some 7) none (.k (.lenS (.tmp 6))), .mk (some 8) none (.k (.mov (.const (.int .i64 0))))]) (.blk 0 (.loop (.ref 4)))) (.ref 5)
def T68 : Nat → XC
 | 0 => T68n0
 | 1 => T68n1
 | 2 => T68n2
 | 3 => T68n3
 | 4 => T68n4
 | 5 => T68n5
 | 6 => T68n6
 | _ => .skip
theorem t68n0 : T68 0 = T68n0 := rfl
theorem t68n1 : T68 1 = T68n1 := rfl
theorem t68n2 : T68 2 = T68n2 := rfl
theorem t68n3 : T68 3 = T68n3 := rfl
theorem t68n4 : T68 4 = T68n4 := rfl
theorem t68n5 : T68 5 = T68n5 := rfl
theorem t68n6 : T68 6 = T68n6 := rfl
def X68 : XC := .seq (.ops [.mk (some 4) none (.k (.mov (.const (.int .i64 0))))]) (.ref 6)
abbrev K68 : List Nat := [0, 1, 4, 5, 7, 8, 9, 16]
theorem n68 : Try.f68.ntmps = 19 := by kernel_rfl
theorem r68 : resT Try.f68.results.toList = some [4] := by kernel_rfl
theorem x68 : cmpF Try.prog Try.f68 = some (expand T68 8 X68) := by kernel_rfl
def T32n0 : XC := .seq (.ops [.mk (some 4) none (.k (.mov (.const (.bool true))))]) .ret
def T32n1 : XC := .seq (.ops [.mk (some 14) none (.k (.fld 7 (.tmp 3))), .mk (some 15) none (.k (.load [.slc] false (.tmp 14))), .mk (some 16) none (.k (.fld 0 (.tmp 6))), .mk (some 17) none (.k (.load [.int .i64] false (.tmp 16))), .mk (some 18) none (.call 52 [.tmp 15, .tmp 17]), .mk (some 19) none (.k (.mov (.tmp 18))), .mk (some 20) (some (19, false)) (.k (.fld 8 (.tmp 3))), .mk (some 21) (some (19, false)) (.k (.load [.slc] false (.tmp 20))), .mk (some 22) (some (19, false)) (.k (.fld 0 (.tmp 6))), .mk (some 23) (some (19, false)) (.k (.load [.int .i64] false (.tmp 22))), .mk (some 24) (some (19, false)) (.call 52 [.tmp 21, .tmp 23]), .mk (some 25) none (.k (.pick (.tmp 19) (.const (.bool true)) (.tmp 24)))]) (.cond (.tmp 25) (.ref 0) .skip)
def T32n2 : XC := .seq (.blk 1 (.seq (.ops [.mk (some 12) none (.k (.idx 2 (.tmp 8) (.tmp 10))), .mk (some 13) none (.k (.load [.int .i64, .int .u64] true (.tmp 12))), .mk (some 6) none (.k (.alloc 85 [.int .i64 0, .int .u64 0])), .mk none none (.k (.store 2 (.tmp 6) (.tmp 13)))]) (.ref 1))) (.ops [.mk (some 26) none (.k (.arith .add .i64 (.tmp 10) (.const (.int .i64 1)))), .mk (some 10) none (.k (.mov (.tmp 26)))])
def T32n3 : XC := .seq (.cond (.tmp 11) .skip (.exit 0)) (.ref 2)
def T32n4 : XC := .seq (.ops [.mk (some 11) none (.k (.cmp .lss .i64 (.tmp 10) (.tmp 9)))]) (.ref 3)
def T32n5 : XC := .seq (.ops [.mk (some 27) none (.k (.fld 8 (.tmp 3))), .mk (some 28) none (.k (.load [.slc] false (.tmp 27))), .mk (some 29) none (.k (.mkfn (.func 54) [] [.tmp 2])), .mk (some 30) none (.call 53 [.tmp 28, .tmp 29]), .mk (some 4) none (.k (.mov (.tmp 30)))]) .ret
def T32n6 : XC := .seq (.seq (.ops [.mk (some 7) none (.k (.fld 8 (.tmp 2))), .mk (some 8) none (.k (.load [.slc] false (.tmp 7))), .mk (some 9) none (.k (.lenS (.tmp 8))), .mk (some 10) none (.k (.mov (.const (.int .i64 0))))]) (.blk 0 (.loop (.ref 4)))) (.ref 5)
def T32 : Nat → XC
 | 0 => T32n0
 | 1 => T32n1
 | 2 => T32n2
 | 3 => T32n3
 | 4 => T32n4
 | 5 => T32n5
 | 6 => T32n6
 | _ => .skip
theorem t32n0 : T32 0 = T32n0 := rfl
theorem t32n1 : T32 1 = T32n1 := rfl
theorem t32n2 : T32 2 = T32n2 := rfl
theorem t32n3 : T32 3 = T32n3 := rfl
theorem t32n4 : T32 4 = T32n4 := rfl
theorem t32n5 : T32 5 = T32n5 := rfl
theorem t32n6 : T32 6 = T32n6 := rfl
def X32 : XC := .seq (.ops [.mk (some 2) none (.k (.box 75 11 (.tmp 0))), .mk (some 3) none (.k (.box 75 11 (.tmp 1))), .mk (some 4) none (.k (.mov (.const (.bool false))))]) (.ref 6)
abbrev K32 : List Nat := [0, 1, 2, 3, 4, 6, 8, 9, 10, 11, 25]
theorem n32 : Try.f32.ntmps = 31 := by kernel_rfl
theorem r32 : resT Try.f32.results.toList = some [4] := by kernel_rfl
theorem x32 : cmpF Try.prog Try.f32 = some (expand T32 8 X32) := by kernel_rfl
def T52n0 : XC := .seq (.ops [.mk (some 5) none (.k (.mov (.tmp 0))), .mk (some 6) none (.k (.mkfn (.func 69) [] [.tmp 3])), .mk (some 7) none (.call 53 [.tmp 5, .tmp 6]), .mk (some 4) none (.k (.mov (.tmp 7)))]) .ret
def T52 : Nat → XC
 | 0 => T52n0
 | _ => .skip
theorem t52n0 : T52 0 = T52n0 := rfl
def X52 : XC := .seq (.ops [.mk (some 3) none (.k (.box 3 1 (.tmp 1))), .mk (some 4) none (.k (.mov (.const (.bool false))))]) (.ref 0)
abbrev K52 : List Nat := [0, 1, 3, 4]
theorem n52 : Try.f52.ntmps = 8 := by kernel_rfl
theorem r52 : resT Try.f52.results.toList = some [4] := by kernel_rfl
theorem x52 : cmpF Try.prog Try.f52 = some (expand T52 2 X52) := by kernel_rfl
def T53n0 : XC := .seq (.ops [.mk (some 5) none (.k (.mov (.tmp 0))), .mk (some 6) none (.k (.mov (.tmp 1))), .mk (some 7) none (.call 70 [.tmp 5, .tmp 6]), .mk (some 8) none (.k (.cmp .geq .i64 (.tmp 7) (.const (.int .i64 0)))), .mk (some 4) none (.k (.mov (.tmp 8)))]) .ret
def T53 : Nat → XC
 | 0 => T53n0
 | _ => .skip
theorem t53n0 : T53 0 = T53n0 := rfl
def X53 : XC := .seq (.ops [.mk (some 4) none (.k (.mov (.const (.bool false))))]) (.ref 0)
abbrev K53 : List Nat := [0, 1, 4]
theorem n53 : Try.f53.ntmps = 9 := by kernel_rfl
theorem r53 : resT Try.f53.results.toList = some [4] := by kernel_rfl
theorem x53 : cmpF Try.prog Try.f53 = some (expand T53 2 X53) := by kernel_rfl
def T54n0 : XC := .seq (.ops [.mk (some 4) none (.k (.fld 7 (.tmp 1))), .mk (some 5) none (.k (.load [.slc] false (.tmp 4))), .mk (some 6) none (.k (.fld 0 (.tmp 2))), .mk (some 7) none (.k (.load [.int .i64] false (.tmp 6))), .mk (some 8) none (.call 52 [.tmp 5, .tmp 7]), .mk (some 3) none (.k (.mov (.tmp 8)))]) .ret
def T54 : Nat → XC
 | 0 => T54n0
 | _ => .skip
theorem t54n0 : T54 0 = T54n0 := rfl
def X54 : XC := .seq (.ops [.mk (some 2) none (.k (.box 85 2 (.tmp 0))), .mk (some 3) none (.k (.mov (.const (.bool false))))]) (.ref 0)
abbrev K54 : List Nat := [0, 1, 2, 3]
theorem n54 : Try.f54.ntmps = 9 := by kernel_rfl
theorem r54 : resT Try.f54.results.toList = some [3] := by kernel_rfl
theorem x54 : cmpF Try.prog Try.f54 = some (expand T54 2 X54) := by kernel_rfl
def T69n0 : XC := .seq (.ops [.mk (some 4) none (.k (.fld 0 (.tmp 2))), .mk (some 5) none (.k (.load [.int .i64] false (.tmp 4))), .mk (some 6) none (.k (.load [.int .i64] false (.tmp 1))), .mk (some 7) none (.k (.cmp .eql .i64 (.tmp 5) (.tmp 6))), .mk (some 3) none (.k (.mov (.tmp 7)))]) .ret
def T69 : Nat → XC
 | 0 => T69n0
 | _ => .skip
theorem t69n0 : T69 0 = T69n0 := rfl
def X69 : XC := .seq (.ops [.mk (some 2) none (.k (.box 85 2 (.tmp 0))), .mk (some 3) none (.k (.mov (.const (.bool false))))]) (.ref 0)
abbrev K69 : List Nat := [0, 1, 2, 3]
theorem n69 : Try.f69.ntmps = 8 := by kernel_rfl
theorem r69 : resT Try.f69.results.toList = some [3] := by kernel_rfl
theorem x69 : cmpF Try.prog Try.f69 = some (expand T69 2 X69) := by kernel_rfl
def T18n0 : XC := .seq (.ops [.mk (some 19) none (.k (.mov (.tmp 6))), .mk (some 2) none (.k (.mov (.const (.int .i64 0)))), .mk (some 3) none (.k (.mov (.const (.slice none 0 0)))), .mk (some 4) none (.k (.mov (.tmp 19)))]) .ret
def T18n1 : XC := .ops [.mk (some 70) none (.k (.mov (.tmp 7))), .mk (some 71) none (.k (.mov (.tmp 8))), .mk (some 72) none (.k (.mov (.tmp 10))), .mk (some 73) none (.k (.build [.int .i64 0, .int .i64 0] [(0, 1, .tmp 71), (1, 1, .tmp 72)])), .mk (some 74) none (.k (.buildS 28 1 2 [.int .i64 0, .int .i64 0] [(0, .tmp 73)])), .mk (some 75) none (.k (.app 28 2 16 (.tmp 70) (.tmp 74))), .mk (some 7) none (.k (.mov (.tmp 75)))]
def T18n2 : XC := .seq (.ops [.mk (some 34) none (.k (.mov (.tmp 8))), .mk (some 35) none (.k (.mov (.tmp 10))), .mk (some 36) none (.k (.cmp .neq .i64 (.tmp 34) (.tmp 35))), .mk (some 37) none (.k (.mov (.tmp 36))), .mk (some 38) (some (37, true)) (.k (.fld 4 (.tmp 11))), .mk (some 39) (some (37, true)) (.k (.load [.int .i64] false (.tmp 38))), .mk (some 40) (some (37, true)) (.k (.fld 6 (.tmp 9))), .mk (some 41) (some (37, true)) (.k (.load [.int .i64] false (.tmp 40))), .mk (some 42) (some (37, true)) (.k (.cmp .gtr .i64 (.tmp 39) (.tmp 41))), .mk (some 43) (some (37, true)) (.k (.mov (.tmp 42))), .mk (some 44) (some (43, false)) (.k (.fld 0 (.tmp 9))), .mk (some 45) (some (43, false)) (.k (.load [.int .i64] false (.tmp 44))), .mk (some 46) (some (43, false)) (.k (.fld 0 (.tmp 11))), .mk (some 47) (some (43, false)) (.k (.load [.int .i64] false (.tmp 46))), .mk (some 48) (some (43, false)) (.k (.cmp .eql .i64 (.tmp 45) (.tmp 47))), .mk (some 49) (some (43, false)) (.k (.mov (.tmp 48))), .mk (some 50) (some (49, true)) (.k (.fld 4 (.tmp 11))), .mk (some 51) (some (49, true)) (.k (.load [.int .i64] false (.tmp 50))), .mk (some 52) (some (49, true)) (.k (.fld 4 (.tmp 9))), .mk (some 53) (some (49, true)) (.k (.load [.int .i64] false (.tmp 52))), .mk (some 54) (some (49, true)) (.k (.cmp .gtr .i64 (.tmp 51) (.tmp 53))), .mk (some 55) (some (43, false)) (.k (.pick (.tmp 49) (.tmp 54) (.const (.bool false)))), .mk (some 56) (some (37, true)) (.k (.pick (.tmp 43) (.const (.bool true)) (.tmp 55))), .mk (some 57) (some (37, true)) (.k (.mov (.tmp 56))), .mk (some 58) (some (57, false)) (.k (.fld 5 (.tmp 9))), .mk (some 59) (some (57, false)) (.k (.load [.int .i64] false (.tmp 58))), .mk (some 60) (some (57, false)) (.k (.fld 5 (.tmp 11))), .mk (some 61) (some (57, false)) (.k (.load [.int .i64] false (.tmp 60))), .mk (some 62) (some (57, false)) (.k (.cmp .lss .i64 (.tmp 59) (.tmp 61))), .mk (some 63) (some (57, false)) (.k (.mov (.tmp 62))), .mk (some 64) (some (63, true)) (.k (.load [.int .i64, .int .i64, .int .i64, .int .i64, .int .i64, .int .i64, .int .i64, .slc, .slc, .bool, .int .i64] true (.tmp 9))), .mk (some 65) (some (63, true)) (.k (.load [.int .i64, .int .i64, .int .i64, .int .i64, .int .i64, .int .i64, .int .i64, .slc, .slc, .bool, .int .i64] true (.tmp 11))), .mk (some 66) (some (63, true)) (.call 32 [.tmp 64, .tmp 65]), .mk (some 67) (some (57, false)) (.k (.pick (.tmp 63) (.tmp 66) (.const (.bool false)))), .mk (some 68) (some (37, true)) (.k (.pick (.tmp 57) (.const (.bool true)) (.tmp 67))), .mk (some 69) none (.k (.pick (.tmp 37) (.tmp 68) (.const (.bool false))))]) (.cond (.tmp 69) (.ref 1) .skip)
def T18n3 : XC := .seq (.blk 3 (.seq (.ops [.mk (some 31) none (.k (.mov (.tmp 29))), .mk (some 32) none (.k (.idx 11 (.tmp 27) (.tmp 29))), .mk (some 33) none (.k (.load [.int .i64, .int .i64, .int .i64, .int .i64, .int .i64, .int .i64, .int .i64, .slc, .slc, .bool, .int .i64] true (.tmp 32))), .mk (some 11) none (.k (.alloc 75 [.int .i64 0, .int .i64 0, .int .i64 0, .int .i64 0, .int .i64 0, .int .i64 0, .int .i64 0, .slice none 0 0, .slice none 0 0, .bool false, .int .i64 0])), .mk (some 10) none (.k (.mov (.tmp 31))), .mk none none (.k (.store 11 (.tmp 11) (.tmp 33)))]) (.ref 2))) (.ops [.mk (some 76) none (.k (.arith .add .i64 (.tmp 29) (.const (.int .i64 1)))), .mk (some 29) none (.k (.mov (.tmp 76)))])
def T18n4 : XC := .seq (.cond (.tmp 30) .skip (.exit 2)) (.ref 3)
def T18n5 : XC := .seq (.ops [.mk (some 30) none (.k (.cmp .lss .i64 (.tmp 29) (.tmp 28)))]) (.ref 4)
def T18n6 : XC := .seq (.ops [.mk (some 27) none (.k (.mov (.tmp 5))), .mk (some 28) none (.k (.lenS (.tmp 27))), .mk (some 29) none (.k (.mov (.const (.int .i64 0))))]) (.blk 2 (.loop (.ref 5)))
def T18n7 : XC := .seq (.blk 1 (.seq (.ops [.mk (some 24) none (.k (.mov (.tmp 22))), .mk (some 25) none (.k (.idx 11 (.tmp 20) (.tmp 22))), .mk (some 26) none (.k (.load [.int .i64, .int .i64, .int .i64, .int .i64, .int .i64, .int .i64, .int .i64, .slc, .slc, .bool, .int .i64] true (.tmp 25))), .mk (some 9) none (.k (.alloc 75 [.int .i64 0, .int .i64 0, .int .i64 0, .int .i64 0, .int .i64 0, .int .i64 0, .int .i64 0, .slice none 0 0, .slice none 0 0, .bool false, .int .i64 0])), .mk (some 8) none (.k (.mov (.tmp 24))), .mk none none (.k (.store 11 (.tmp 9) (.tmp 26)))]) (.ref 6))) (.ops [.mk (some 77) none (.k (.arith .add .i64 (.tmp 22) (.const (.int .i64 1)))), .mk (some 22) none (.k (.mov (.tmp 77)))])
def T18n8 : XC := .seq (.cond (.tmp 23) .skip (.exit 0)) (.ref 7)
def T18n9 : XC := .seq (.ops [.mk (some 23) none (.k (.cmp .lss .i64 (.tmp 22) (.tmp 21)))]) (.ref 8)
def T18n10 : XC := .seq (.ops [.mk (some 78) none (.k (.mov (.tmp 5))), .mk (some 79) none (.k (.lenS (.tmp 78))), .mk (some 80) none (.k (.mov (.tmp 7))), .mk (some 2) none (.k (.mov (.tmp 79))), .mk (some 3) none (.k (.mov (.tmp 80))), .mk (some 4) none (.k (.mov (.const (.int .i64 0))))]) .ret
def T18n11 : XC := .seq (.seq (.ops [.mk (some 20) none (.k (.mov (.tmp 5))), .mk (some 21) none (.k (.lenS (.tmp 20))), .mk (some 22) none (.k (.mov (.const (.int .i64 0))))]) (.blk 0 (.loop (.ref 9)))) (.ref 10)
def T18n12 : XC := .seq (.ops [.mk (some 7) none (.k (.mov (.const (.slice none 0 0))))]) (.ref 11)
def T18n13 : XC := .seq (.seq (.ops [.mk (some 17) none (.k (.mov (.tmp 6))), .mk (some 18) none (.k (.cmp .neq .i64 (.tmp 17) (.const (.int .i64 0))))]) (.cond (.tmp 18) (.ref 0) .skip)) (.ref 12)
def T18n14 : XC := .seq (.ops [.mk (some 13) none (.k (.mov (.tmp 0))), .mk (some 14) none (.call 31 [.tmp 13]), .mk (some 12) none (.k (.mov (.tmp 14))), .mk (some 15) none (.k (.ext (.tmp 12) 0)), .mk (some 16) none (.k (.ext (.tmp 12) 1)), .mk (some 5) none (.k (.mov (.tmp 15))), .mk (some 6) none (.k (.mov (.tmp 16)))]) (.ref 13)
def T18 : Nat → XC
 | 0 => T18n0
 | 1 => T18n1
 | 2 => T18n2
 | 3 => T18n3
 | 4 => T18n4
 | 5 => T18n5
 | 6 => T18n6
 | 7 => T18n7
 | 8 => T18n8
 | 9 => T18n9
 | 10 => T18n10
 | 11 => T18n11
 | 12 => T18n12
 | 13 => T18n13
 | 14 => T18n14
 | _ => .skip
theorem t18n0 : T18 0 = T18n0 := rfl
theorem t18n1 : T18 1 = T18n1 := rfl
theorem t18n2 : T18 2 = T18n2 := rfl
theorem t18n3 : T18 3 = T18n3 := rfl
theorem t18n4 : T18 4 = T18n4 := rfl
theorem t18n5 : T18 5 = T18n5 := rfl
theorem t18n6 : T18 6 = T18n6 := rfl
theorem t18n7 : T18 7 = T18n7 := rfl
theorem t18n8 : T18 8 = T18n8 := rfl
theorem t18n9 : T18 9 = T18n9 := rfl
theorem t18n10 : T18 10 = T18n10 := rfl
theorem t18n11 : T18 11 = T18n11 := rfl
theorem t18n12 : T18 12 = T18n12 := rfl
theorem t18n13 : T18 13 = T18n13 := rfl
theorem t18n14 : T18 14 = T18n14 := rfl
def X18 : XC := .seq (.ops [.mk (some 2) none (.k (.mov (.const (.int .i64 0)))), .mk (some 3) none (.k (.mov (.const (.slice none 0 0)))), .mk (some 4) none (.k (.mov (.const (.int .i64 0))))]) (.ref 14)
abbrev K18 : List Nat := [0, 2, 3, 4, 5, 6, 7, 8, 9, 10, 11, 18, 20, 21, 22, 23, 27, 28, 29, 30, 69]
theorem n18 : Try.f18.ntmps = 81 := by kernel_rfl
theorem r18 : resT Try.f18.results.toList = some [2, 3, 4] := by kernel_rfl
theorem x18 : cmpF Try.prog Try.f18 = some (expand T18 16 X18) := by kernel_rfl
def T35n0 : XC := .seq (.ops [.mk (some 5) none (.k (.mov (.tmp 0))), .mk (some 6) none (.k (.mov (.tmp 1))), .mk (some 7) none (.call 58 [.tmp 5, .tmp 6]), .mk (some 8) none (.k (.cmp .geq .i64 (.tmp 7) (.const (.int .i64 0)))), .mk (some 4) none (.k (.mov (.tmp 8)))]) .ret
def T35 : Nat → XC
 | 0 => T35n0
 | _ => .skip
theorem t35n0 : T35 0 = T35n0 := rfl
def X35 : XC := .seq (.ops [.mk (some 4) none (.k (.mov (.const (.bool false))))]) (.ref 0)
abbrev K35 : List Nat := [0, 1, 4]
theorem n35 : Try.f35.ntmps = 9 := by kernel_rfl
theorem r35 : resT Try.f35.results.toList = some [4] := by kernel_rfl
theorem x35 : cmpF Try.prog Try.f35 = some (expand T35 2 X35) := by kernel_rfl
def T58n0 : XC := .seq (.ops [.mk (some 17) none (.k (.mov (.tmp 5))), .mk (some 4) none (.k (.mov (.tmp 17)))]) .ret
def T58n1 : XC := .seq (.ops [.mk (some 11) none (.k (.mov (.tmp 1))), .mk (some 12) none (.k (.mov (.tmp 0))), .mk (some 13) none (.k (.mov (.tmp 5))), .mk (some 14) none (.k (.idx 9 (.tmp 12) (.tmp 13))), .mk (some 15) none (.k (.load [.int .i64, .int .i64, .int .i64, .int .i64, .int .i64, .int .i64, .int .i64, .int .u64, .int .i64] true (.tmp 14))), .mk (some 16) none (.callv (.tmp 11) [.tmp 15])]) (.cond (.tmp 16) (.ref 0) .skip)
def T58n2 : XC := .seq (.blk 1 (.seq (.ops [.mk (some 10) none (.k (.mov (.tmp 8))), .mk (some 5) none (.k (.mov (.tmp 10)))]) (.ref 1))) (.ops [.mk (some 18) none (.k (.arith .add .i64 (.tmp 8) (.const (.int .i64 1)))), .mk (some 8) none (.k (.mov (.tmp 18)))])
def T58n3 : XC := .seq (.cond (.tmp 9) .skip (.exit 0)) (.ref 2)
def T58n4 : XC := .seq (.ops [.mk (some 9) none (.k (.cmp .lss .i64 (.tmp 8) (.tmp 7)))]) (.ref 3)
def T58n5 : XC := .seq (.ops [.mk (some 4) none (.k (.mov (.const (.int .i64 (-1)))))]) .ret
def T58n6 : XC := .seq (.seq (.ops [.mk (some 6) none (.k (.mov (.tmp 0))), .mk (some 7) none (.k (.lenS (.tmp 6))), .mk (some 8) none (.k (.mov (.const (.int .i64 0))))]) (.blk 0 (.loop (.ref 4)))) (.ref 5)
def T58 : Nat → XC
 | 0 => T58n0
 | 1 => T58n1
 | 2 => T58n2
 | 3 => T58n3
 | 4 => T58n4
 | 5 => T58n5
 | 6 => T58n6
 | _ => .skip
theorem t58n0 : T58 0 = T58n0 := rfl
theorem t58n1 : T58 1 = T58n1 := rfl
theorem t58n2 : T58 2 = T58n2 := rfl
theorem t58n3 : T58 3 = T58n3 := rfl
theorem t58n4 : T58 4 = T58n4 := rfl
theorem t58n5 : T58 5 = T58n5 := rfl
theorem t58n6 : T58 6 = T58n6 := rfl
def X58 : XC := .seq (.ops [.mk (some 4) none (.k (.mov (.const (.int .i64 0))))]) (.ref 6)
abbrev K58 : List Nat := [0, 1, 4, 5, 7, 8, 9, 16]
theorem n58 : Try.f58.ntmps = 19 := by kernel_rfl
theorem r58 : resT Try.f58.results.toList = some [4] := by kernel_rfl
theorem x58 : cmpF Try.prog Try.f58 = some (expand T58 8 X58) := by kernel_rfl
def T36n0 : XC := .seq (.ops [.mk (some 3) none (.k (.fld 0 (.tmp 1))), .mk (some 4) none (.k (.load [.int .i64] false (.tmp 3))), .mk (some 5) none (.k (.cmp .eql .i64 (.tmp 4) (.const (.int .i64 7)))), .mk (some 6) none (.k (.mov (.tmp 5))), .mk (some 7) (some (6, false)) (.k (.fld 0 (.tmp 1))), .mk (some 8) (some (6, false)) (.k (.load [.int .i64] false (.tmp 7))), .mk (some 9) (some (6, false)) (.k (.cmp .eql .i64 (.tmp 8) (.const (.int .i64 8)))), .mk (some 10) none (.k (.pick (.tmp 6) (.const (.bool true)) (.tmp 9))), .mk (some 2) none (.k (.mov (.tmp 10)))]) .ret
def T36 : Nat → XC
 | 0 => T36n0
 | _ => .skip
theorem t36n0 : T36 0 = T36n0 := rfl
def X36 : XC := .seq (.ops [.mk (some 1) none (.k (.box 53 9 (.tmp 0))), .mk (some 2) none (.k (.mov (.const (.bool false))))]) (.ref 0)
abbrev K36 : List Nat := [0, 1, 2]
theorem n36 : Try.f36.ntmps = 11 := by kernel_rfl
theorem r36 : resT Try.f36.results.toList = some [2] := by kernel_rfl
theorem x36 : cmpF Try.prog Try.f36 = some (expand T36 2 X36) := by kernel_rfl
def T37n0 : XC := .seq (.ops [.mk (some 8) none (.k (.mov (.tmp 3))), .mk (some 2) none (.k (.mov (.tmp 8)))]) .ret
def T37n1 : XC := .seq (.ops [.mk (some 6) none (.k (.mov (.tmp 3))), .mk (some 7) none (.call 44 [.tmp 6])]) (.ref 0)
def T37n2 : XC := .seq (.ops [.mk (some 4) none (.k (.mov (.tmp 0))), .mk (some 5) none (.call 59 [.tmp 4]), .mk (some 3) none (.k (.mov (.tmp 5)))]) (.ref 1)
def T37 : Nat → XC
 | 0 => T37n0
 | 1 => T37n1
 | 2 => T37n2
 | _ => .skip
theorem t37n0 : T37 0 = T37n0 := rfl
theorem t37n1 : T37 1 = T37n1 := rfl
theorem t37n2 : T37 2 = T37n2 := rfl
def X37 : XC := .seq (.ops [.mk (some 2) none (.k (.mov (.const (.slice none 0 0))))]) (.ref 2)
abbrev K37 : List Nat := [0, 2, 3]
theorem n37 : Try.f37.ntmps = 9 := by kernel_rfl
theorem r37 : resT Try.f37.results.toList = some [2] := by kernel_rfl
theorem x37 : cmpF Try.prog Try.f37 = some (expand T37 4 X37) := by kernel_rfl
def T38n0 : XC := .seq (.ops [.mk (some 3) none (.k (.mkfn (.func 60) [] [.tmp 1])), .mk (some 2) none (.k (.mov (.tmp 3)))]) .ret
def T38 : Nat → XC
 | 0 => T38n0
 | _ => .skip
theorem t38n0 : T38 0 = T38n0 := rfl
def X38 : XC := .seq (.ops [.mk (some 1) none (.k (.box 24 1 (.tmp 0))), .mk (some 2) none (.k (.mov (.const .nilFunc)))]) (.ref 0)
abbrev K38 : List Nat := [0, 1, 2]
theorem n38 : Try.f38.ntmps = 4 := by kernel_rfl
theorem r38 : resT Try.f38.results.toList = some [2] := by kernel_rfl
theorem x38 : cmpF Try.prog Try.f38 = some (expand T38 2 X38) := by kernel_rfl
def T59n0 : XC := .seq (.ops [.mk (some 3) none (.k (.mov (.tmp 0))), .mk (some 4) none (.call 73 [.const (.slice none 0 0), .tmp 3]), .mk (some 2) none (.k (.mov (.tmp 4)))]) .ret
def T59 : Nat → XC
 | 0 => T59n0
 | _ => .skip
theorem t59n0 : T59 0 = T59n0 := rfl
def X59 : XC := .seq (.ops [.mk (some 2) none (.k (.mov (.const (.slice none 0 0))))]) (.ref 0)
abbrev K59 : List Nat := [0, 2]
theorem n59 : Try.f59.ntmps = 5 := by kernel_rfl
theorem r59 : resT Try.f59.results.toList = some [2] := by kernel_rfl
theorem x59 : cmpF Try.prog Try.f59 = some (expand T59 2 X59) := by kernel_rfl
def T60n0 : XC := .seq (.ops [.mk (some 11) none (.k (.mov (.tmp 0))), .mk (some 12) none (.k (.mov (.tmp 4))), .mk (some 13) none (.callv (.tmp 11) [.tmp 12]), .mk (some 14) none (.k (.not (.tmp 13)))]) (.cond (.tmp 14) .ret .skip)
def T60n1 : XC := .seq (.blk 1 (.seq (.ops [.mk (some 9) none (.k (.idx 1 (.tmp 5) (.tmp 7))), .mk (some 10) none (.k (.load [.int .i64] false (.tmp 9))), .mk (some 4) none (.k (.mov (.tmp 10)))]) (.ref 0))) (.ops [.mk (some 15) none (.k (.arith .add .i64 (.tmp 7) (.const (.int .i64 1)))), .mk (some 7) none (.k (.mov (.tmp 15)))])
def T60n2 : XC := .seq (.cond (.tmp 8) .skip (.exit 0)) (.ref 1)
def T60n3 : XC := .seq (.ops [.mk (some 8) none (.k (.cmp .lss .i64 (.tmp 7) (.tmp 6)))]) (.ref 2)
def T60 : Nat → XC
 | 0 => T60n0
 | 1 => T60n1
 | 2 => T60n2
 | 3 => T60n3
 | _ => .skip
theorem t60n0 : T60 0 = T60n0 := rfl
theorem t60n1 : T60 1 = T60n1 := rfl
theorem t60n2 : T60 2 = T60n2 := rfl
theorem t60n3 : T60 3 = T60n3 := rfl
def X60 : XC := .seq (.ops [.mk (some 5) none (.k (.load [.slc] false (.tmp 1))), .mk (some 6) none (.k (.lenS (.tmp 5))), .mk (some 7) none (.k (.mov (.const (.int .i64 0))))]) (.blk 0 (.loop (.ref 3)))
abbrev K60 : List Nat := [0, 1, 4, 5, 6, 7, 8, 14]
theorem n60 : Try.f60.ntmps = 16 := by kernel_rfl
theorem r60 : resT Try.f60.results.toList = some [] := by kernel_rfl
theorem x60 : cmpF Try.prog Try.f60 = some (expand T60 5 X60) := by kernel_rfl
def T73n0 : XC := .blk 1 (.ops [.mk (some 8) none (.k (.load [.slc] false (.tmp 2))), .mk (some 9) none (.k (.mov (.tmp 5))), .mk (some 10) none (.k (.buildS 3 1 1 [.int .i64 0] [(0, .tmp 9)])), .mk (some 11) none (.k (.app 3 1 8 (.tmp 8) (.tmp 10))), .mk none none (.k (.store 1 (.tmp 2) (.tmp 11)))])
def T73n1 : XC := .blk 0 (.rng (.tmp 6) [7] (.ops [.mk (some 5) none (.k (.mov (.tmp 7)))]) (.ref 0))
def T73n2 : XC := .seq (.ops [.mk (some 12) none (.k (.load [.slc] false (.tmp 2))), .mk (some 4) none (.k (.mov (.tmp 12)))]) .ret
def T73n3 : XC := .seq (.seq (.ops [.mk (some 6) none (.k (.mov (.tmp 1)))]) (.ref 1)) (.ref 2)
def T73 : Nat → XC
 | 0 => T73n0
 | 1 => T73n1
 | 2 => T73n2
 | 3 => T73n3
 | _ => .skip
theorem t73n0 : T73 0 = T73n0 := rfl
theorem t73n1 : T73 1 = T73n1 := rfl
theorem t73n2 : T73 2 = T73n2 := rfl
theorem t73n3 : T73 3 = T73n3 := rfl
def X73 : XC := .seq (.ops [.mk (some 2) none (.k (.box 24 1 (.tmp 0))), .mk (some 4) none (.k (.mov (.const (.slice none 0 0))))]) (.ref 3)
abbrev K73 : List Nat := [0, 1, 2, 4, 5, 6, 7]
theorem n73 : Try.f73.ntmps = 13 := by kernel_rfl
theorem r73 : resT Try.f73.results.toList = some [4] := by kernel_rfl
theorem x73 : cmpF Try.prog Try.f73 = some (expand T73 5 X73) := by kernel_rfl
def T20n0 : XC := .seq (.ops [.mk (some 29) none (.k (.mov (.tmp 9))), .mk (some 6) none (.k (.mov (.const (.bool false)))), .mk (some 7) none (.k (.mov (.tmp 29)))]) .ret
def T20n1 : XC := .seq (.ops [.mk (some 6) none (.k (.mov (.const (.bool false)))), .mk (some 7) none (.k (.mov (.const (.int .i64 120))))]) .ret
def T20n2 : XC := .seq (.ops [.mk (some 6) none (.k (.mov (.const (.bool false)))), .mk (some 7) none (.k (.mov (.const (.int .i64 2))))]) .ret
def T20n3 : XC := .seq (.ops [.mk (some 42) none (.k (.mov (.tmp 12))), .mk (some 43) none (.k (.mov (.tmp 11))), .mk (some 44) none (.k (.cmp .neq .i64 (.tmp 42) (.tmp 43)))]) (.cond (.tmp 44) (.ref 2) .skip)
def T20n4 : XC := .seq (.blk 1 (.seq (.ops [.mk (some 39) none (.k (.mov (.tmp 37))), .mk (some 40) none (.k (.idx 1 (.tmp 35) (.tmp 37))), .mk (some 41) none (.k (.load [.int .i64] false (.tmp 40))), .mk (some 11) none (.k (.mov (.tmp 39))), .mk (some 12) none (.k (.mov (.tmp 41)))]) (.ref 3))) (.ops [.mk (some 45) none (.k (.arith .add .i64 (.tmp 37) (.const (.int .i64 1)))), .mk (some 37) none (.k (.mov (.tmp 45)))])
def T20n5 : XC := .seq (.cond (.tmp 38) .skip (.exit 0)) (.ref 4)
def T20n6 : XC := .seq (.ops [.mk (some 38) none (.k (.cmp .lss .i64 (.tmp 37) (.tmp 36)))]) (.ref 5)
def T20n7 : XC := .seq (.ops [.mk (some 6) none (.k (.mov (.const (.bool false)))), .mk (some 7) none (.k (.mov (.const (.int .i64 2))))]) .ret
def T20n8 : XC := .ops [.mk (some 59) none (.k (.mov (.tmp 13))), .mk (some 60) none (.k (.mov (.tmp 14))), .mk (some 61) none (.k (.mov (.tmp 15))), .mk none none (.k (.mupd (.int .i64) (.tmp 59) (.tmp 60) (.tmp 61)))]
def T20n9 : XC := .seq (.blk 3 (.seq (.ops [.mk (some 56) none (.k (.mov (.tmp 54))), .mk (some 57) none (.k (.idx 1 (.tmp 52) (.tmp 54))), .mk (some 58) none (.k (.load [.int .u64] false (.tmp 57))), .mk (some 14) none (.k (.mov (.tmp 56))), .mk (some 15) none (.k (.mov (.tmp 58)))]) (.ref 8))) (.ops [.mk (some 62) none (.k (.arith .add .i64 (.tmp 54) (.const (.int .i64 1)))), .mk (some 54) none (.k (.mov (.tmp 62)))])
def T20n10 : XC := .seq (.cond (.tmp 55) .skip (.exit 2)) (.ref 9)
def T20n11 : XC := .seq (.ops [.mk (some 55) none (.k (.cmp .lss .i64 (.tmp 54) (.tmp 53)))]) (.ref 10)
def T20n12 : XC := .seq (.ops [.mk (some 6) none (.k (.mov (.const (.bool false)))), .mk (some 7) none (.k (.mov (.const (.int .i64 0))))]) .ret
def T20n13 : XC := .seq (.ops [.mk (some 79) none (.k (.mov (.tmp 13))), .mk (some 80) none (.k (.fld 0 (.tmp 19))), .mk (some 81) none (.k (.load [.int .i64] false (.tmp 80))), .mk (some 82) none (.k (.lkup (.int .i64) (.int .u64 0) false (.tmp 79) (.tmp 81))), .mk (some 83) none (.k (.fld 1 (.tmp 19))), .mk (some 84) none (.k (.load [.int .u64] false (.tmp 83))), .mk (some 85) none (.k (.cmp .neq .u64 (.tmp 82) (.tmp 84)))]) (.cond (.tmp 85) (.ref 12) .skip)
def T20n14 : XC := .seq (.blk 7 (.seq (.ops [.mk (some 77) none (.k (.idx 2 (.tmp 73) (.tmp 75))), .mk (some 78) none (.k (.load [.int .i64, .int .u64] true (.tmp 77))), .mk (some 19) none (.k (.alloc 85 [.int .i64 0, .int .u64 0])), .mk none none (.k (.store 2 (.tmp 19) (.tmp 78)))]) (.ref 13))) (.ops [.mk (some 86) none (.k (.arith .add .i64 (.tmp 75) (.const (.int .i64 1)))), .mk (some 75) none (.k (.mov (.tmp 86)))])
def T20n15 : XC := .seq (.cond (.tmp 76) .skip (.exit 6)) (.ref 14)
def T20n16 : XC := .seq (.ops [.mk (some 76) none (.k (.cmp .lss .i64 (.tmp 75) (.tmp 74)))]) (.ref 15)
def T20n17 : XC := .ops [.mk (some 97) none (.k (.mov (.tmp 13))), .mk (some 98) none (.k (.fld 0 (.tmp 21))), .mk (some 99) none (.k (.load [.int .i64] false (.tmp 98))), .mk (some 100) none (.k (.fld 1 (.tmp 21))), .mk (some 101) none (.k (.load [.int .u64] false (.tmp 100))), .mk none none (.k (.mupd (.int .i64) (.tmp 97) (.tmp 99) (.tmp 101)))]
def T20n18 : XC := .seq (.blk 9 (.seq (.ops [.mk (some 95) none (.k (.idx 2 (.tmp 91) (.tmp 93))), .mk (some 96) none (.k (.load [.int .i64, .int .u64] true (.tmp 95))), .mk (some 21) none (.k (.alloc 85 [.int .i64 0, .int .u64 0])), .mk none none (.k (.store 2 (.tmp 21) (.tmp 96)))]) (.ref 17))) (.ops [.mk (some 102) none (.k (.arith .add .i64 (.tmp 93) (.const (.int .i64 1)))), .mk (some 93) none (.k (.mov (.tmp 102)))])
def T20n19 : XC := .seq (.cond (.tmp 94) .skip (.exit 8)) (.ref 18)
def T20n20 : XC := .seq (.ops [.mk (some 94) none (.k (.cmp .lss .i64 (.tmp 93) (.tmp 92)))]) (.ref 19)
def T20n21 : XC := .seq (.ops [.mk (some 87) none (.k (.mov (.tmp 8))), .mk (some 88) none (.k (.mov (.tmp 17))), .mk (some 89) none (.k (.idx 11 (.tmp 87) (.tmp 88))), .mk (some 90) none (.k (.fld 8 (.tmp 89))), .mk (some 91) none (.k (.load [.slc] false (.tmp 90))), .mk (some 92) none (.k (.lenS (.tmp 91))), .mk (some 93) none (.k (.mov (.const (.int .i64 0))))]) (.blk 8 (.loop (.ref 20)))
def T20n22 : XC := .seq (.seq (.ops [.mk (some 69) none (.k (.mov (.tmp 8))), .mk (some 70) none (.k (.mov (.tmp 17))), .mk (some 71) none (.k (.idx 11 (.tmp 69) (.tmp 70))), .mk (some 72) none (.k (.fld 7 (.tmp 71))), .mk (some 73) none (.k (.load [.slc] false (.tmp 72))), .mk (some 74) none (.k (.lenS (.tmp 73))), .mk (some 75) none (.k (.mov (.const (.int .i64 0))))]) (.blk 6 (.loop (.ref 16)))) (.ref 21)
def T20n23 : XC := .seq (.blk 5 (.seq (.ops [.mk (some 67) none (.k (.idx 1 (.tmp 63) (.tmp 65))), .mk (some 68) none (.k (.load [.int .i64] false (.tmp 67))), .mk (some 17) none (.k (.mov (.tmp 68)))]) (.ref 22))) (.ops [.mk (some 103) none (.k (.arith .add .i64 (.tmp 65) (.const (.int .i64 1)))), .mk (some 65) none (.k (.mov (.tmp 103)))])
def T20n24 : XC := .seq (.cond (.tmp 66) .skip (.exit 4)) (.ref 23)
def T20n25 : XC := .seq (.ops [.mk (some 66) none (.k (.cmp .lss .i64 (.tmp 65) (.tmp 64)))]) (.ref 24)
def T20n26 : XC := .seq (.ops [.mk (some 6) none (.k (.mov (.const (.bool true)))), .mk (some 7) none (.k (.mov (.const (.int .i64 0))))]) .ret
def T20n27 : XC := .seq (.seq (.ops [.mk (some 63) none (.k (.mov (.tmp 2))), .mk (some 64) none (.k (.lenS (.tmp 63))), .mk (some 65) none (.k (.mov (.const (.int .i64 0))))]) (.blk 4 (.loop (.ref 25)))) (.ref 26)
def T20n28 : XC := .seq (.seq (.ops [.mk (some 52) none (.k (.mov (.tmp 1))), .mk (some 53) none (.k (.lenS (.tmp 52))), .mk (some 54) none (.k (.mov (.const (.int .i64 0))))]) (.blk 2 (.loop (.ref 11)))) (.ref 27)
def T20n29 : XC := .seq (.ops [.mk (some 51) none (.k .mkmap), .mk (some 13) none (.k (.mov (.tmp 51)))]) (.ref 28)
def T20n30 : XC := .seq (.seq (.ops [.mk (some 46) none (.k (.mov (.tmp 2))), .mk (some 47) none (.k (.lenS (.tmp 46))), .mk (some 48) none (.k (.mov (.tmp 8))), .mk (some 49) none (.k (.lenS (.tmp 48))), .mk (some 50) none (.k (.cmp .neq .i64 (.tmp 47) (.tmp 49)))]) (.cond (.tmp 50) (.ref 7) .skip)) (.ref 29)
def T20n31 : XC := .seq (.seq (.ops [.mk (some 35) none (.k (.mov (.tmp 10))), .mk (some 36) none (.k (.lenS (.tmp 35))), .mk (some 37) none (.k (.mov (.const (.int .i64 0))))]) (.blk 0 (.loop (.ref 6)))) (.ref 30)
def T20n32 : XC := .seq (.ops [.mk (some 32) none (.k (.mov (.tmp 2))), .mk (some 33) none (.call 38 [.tmp 32]), .mk (some 34) none (.call 37 [.tmp 33]), .mk (some 10) none (.k (.mov (.tmp 34)))]) (.ref 31)
def T20n33 : XC := .seq (.seq (.ops [.mk (some 30) none (.k (.mov (.tmp 0))), .mk (some 31) none (.call 35 [.tmp 30, .func 36])]) (.cond (.tmp 31) (.ref 1) .skip)) (.ref 32)
def T20n34 : XC := .seq (.seq (.ops [.mk (some 27) none (.k (.mov (.tmp 9))), .mk (some 28) none (.k (.cmp .neq .i64 (.tmp 27) (.const (.int .i64 0))))]) (.cond (.tmp 28) (.ref 0) .skip)) (.ref 33)
def T20n35 : XC := .seq (.ops [.mk (some 23) none (.k (.mov (.tmp 0))), .mk (some 24) none (.call 31 [.tmp 23]), .mk (some 22) none (.k (.mov (.tmp 24))), .mk (some 25) none (.k (.ext (.tmp 22) 0)), .mk (some 26) none (.k (.ext (.tmp 22) 1)), .mk (some 8) none (.k (.mov (.tmp 25))), .mk (some 9) none (.k (.mov (.tmp 26)))]) (.ref 34)
def T20 : Nat → XC
 | 0 => T20n0
 | 1 => T20n1
 | 2 => T20n2
 | 3 => T20n3
 | 4 => T20n4
 | 5 => T20n5
 | 6 => T20n6
 | 7 => T20n7
 | 8 => T20n8
 | 9 => T20n9
 | 10 => T20n10
 | 11 => T20n11
 | 12 => T20n12
 | 13 => T20n13
 | 14 => T20n14
 | 15 => T20n15
 | 16 => T20n16
 | 17 => T20n17
 | 18 => T20n18
 | 19 => T20n19
 | 20 => T20n20
 | 21 => T20n21
 | 22 => T20n22
 | 23 => T20n23
 | 24 => T20n24
 | 25 => T20n25
 | 26 => T20n26
 | 27 => T20n27
 | 28 => T20n28
 | 29 => T20n29
 | 30 => T20n30
 | 31 => T20n31
 | 32 => T20n32
 | 33 => T20n33
 | 34 => T20n34
 | 35 => T20n35
 | _ => .skip
theorem t20n0 : T20 0 = T20n0 := rfl
theorem t20n1 : T20 1 = T20n1 := rfl
theorem t20n2 : T20 2 = T20n2 := rfl
theorem t20n3 : T20 3 = T20n3 := rfl
theorem t20n4 : T20 4 = T20n4 := rfl
theorem t20n5 : T20 5 = T20n5 := rfl
theorem t20n6 : T20 6 = T20n6 := rfl
theorem t20n7 : T20 7 = T20n7 := rfl
theorem t20n8 : T20 8 = T20n8 := rfl
theorem t20n9 : T20 9 = T20n9 := rfl
theorem t20n10 : T20 10 = T20n10 := rfl
theorem t20n11 : T20 11 = T20n11 := rfl
theorem t20n12 : T20 12 = T20n12 := rfl
theorem t20n13 : T20 13 = T20n13 := rfl
theorem t20n14 : T20 14 = T20n14 := rfl
theorem t20n15 : T20 15 = T20n15 := rfl
theorem t20n16 : T20 16 = T20n16 := rfl
theorem t20n17 : T20 17 = T20n17 := rfl
theorem t20n18 : T20 18 = T20n18 := rfl
theorem t20n19 : T20 19 = T20n19 := rfl
theorem t20n20 : T20 20 = T20n20 := rfl
theorem t20n21 : T20 21 = T20n21 := rfl
theorem t20n22 : T20 22 = T20n22 := rfl
theorem t20n23 : T20 23 = T20n23 := rfl
theorem t20n24 : T20 24 = T20n24 := rfl
theorem t20n25 : T20 25 = T20n25 := rfl
theorem t20n26 : T20 26 = T20n26 := rfl
theorem t20n27 : T20 27 = T20n27 := rfl
theorem t20n28 : T20 28 = T20n28 := rfl
theorem t20n29 : T20 29 = T20n29 := rfl
theorem t20n30 : T20 30 = T20n30 := rfl
theorem t20n31 : T20 31 = T20n31 := rfl
theorem t20n32 : T20 32 = T20n32 := rfl
theorem t20n33 : T20 33 = T20n33 := rfl
theorem t20n34 : T20 34 = T20n34 := rfl
theorem t20n35 : T20 35 = T20n35 := rfl
def X20 : XC := .seq (.ops [.mk (some 6) none (.k (.mov (.const (.bool false)))), .mk (some 7) none (.k (.mov (.const (.int .i64 0))))]) (.ref 35)
abbrev K20 : List Nat := [0, 1, 2, 6, 7, 8, 9, 10, 11, 12, 13, 14, 15, 17, 19, 21, 28, 31, 35, 36, 37, 38, 44, 50, 52, 53, 54, 55, 63, 64, 65, 66, 73, 74, 75, 76, 85, 91, 92, 93, 94]
theorem n20 : Try.f20.ntmps = 104 := by kernel_rfl
theorem r20 : resT Try.f20.results.toList = some [6, 7] := by kernel_rfl
theorem x20 : cmpF Try.prog Try.f20 = some (expand T20 37 X20) := by kernel_rfl
end Go.Proofs.Ytbkpiljencaoeaa
